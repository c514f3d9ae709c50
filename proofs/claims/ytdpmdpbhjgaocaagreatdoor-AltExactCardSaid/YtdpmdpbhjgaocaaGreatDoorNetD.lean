/- Nets, cells, flags: what the functions do (part 4). -/
import Derived.Test.YtdpmdpbhjgaocaaGreatDoorNetC
open Go.Ab.Tryz renaming abEnv->xt,u40->xL,e3E->xQ,s46->xY,s3->yf,e50->yq,n40->yr,a46->yy
open List renaming getD_eq_getElem?_getD->xu,getElem?_eq_getElem->xw,range->xx,take_succ_eq_append_getElem->xG,length_take->xK,getElem_mem->xP,take->xR,drop->xS,drop_zero->xU,flatMap_eq_foldl->xV,take_succ_cons->xW,take_zero->xZ,length_append->ya,all_cons->yb,getElem?_map->yd,getElem?_append_left->ye,take_length->yg,all_nil->yh,map_append->ym,mem_append_right->yo,map_cons->yt,mem_cons->yu,map_congr_left->yv,map_eq_flatMap->yw,map_nil->yx
open Bool renaming and_true->xy
open Nat renaming le_trans->xz,zero_le->xB,mul_one->xC,lt_of_lt_of_le->xD,zero_mul->xF,zero_add->xH,lt_of_succ_le->xI,one_mul->xM,le_refl->xX,le_mul_of_pos_right->yi,min_eq_left->yj,ble_eq_true_of_le->yp
open Int renaming eq_ofNat_of_zero_le->xJ,cast_ofNat_Int->xN,toNat_natCast->xO,tmod_eq_emod_of_nonneg->yc,le_refl->yn
open Option renaming map_some->yk,map_none->yl
set_option maxHeartbeats 4000000
set_option linter.defProp false
set_option linter.unusedVariables false
set_option linter.unusedSimpArgs false
section
namespace Go.Ab
open Go.Proofs
set_option maxRecDepth 10000
open Tryz in
def Tryz.FFtb183:=aj a1<|aj s1<|aj z1<|aj n1<|aj u2<|aj a2<|aj s2<|aj z2<|aj i2<|aj u3<|aj a3<|aj s3<|aj z3<|aj i3<|aj u4<|aj a4<|aj s4<|aj z4<|aj n4<|aj u153<|aj a153<|aj s153<|aj z153<|n153
open Tryz in
def Tryz.FFtb1127:=aj a1<|aj s1<|aj z1<|aj n1<|aj u2<|aj a2<|aj s2<|aj z2<|aj i2<|aj u3<|aj a3<|aj s3<|aj z3<|aj i3<|aj u4<|aj a4<|aj s4<|aj z4<|aj n4<|aj u5<|aj a5<|aj s5<|aj z5<|aj i5<|aj u6<|aj a6<|aj s6<|aj z6<|aj i6<|aj a7<|aj s7<|aj z7<|aj i7<|aj n7<|aj p7<|aj ff7<|aj d7<|aj u40<|aj a40<|aj s40<|aj z40<|aj q40<|aj n40<|aj a154<|aj s154<|aj z154<|n154
open Tryz in
def Tryz.FFtb136:=aj a1<|aj s1<|aj z1<|aj n1<|aj u2<|aj a2<|aj s2<|aj z2<|aj i2<|aj u3<|aj a3<|aj s3<|aj z3<|aj i3<|aj u4<|aj a4<|aj s4<|aj z4<|aj n4<|aj u40<|aj a40<|aj s40<|aj z40<|aj q40<|aj n40<|aj u153<|aj a153<|aj s153<|aj z153<|aj n153<|aj a154<|aj s154<|aj z154<|n154
theorem may1_ok{h0:Hp}(ok:h0.t.Sized h0.n){b5 b2 bm c N k:Nat}{x:Int}{es:List (Value×Value×Nat)}{f:Int->Option Value}(e5:h0.load b5 0 1=some [.map (some bm)])(e2:h0.load b2 0 1=some [.int .i64 N])(hm:h0.get bm=some (.map es c))(MI:cR es c f)(hf:(f x).getD (.int .i64 0)=.int .i64 k)(hk:k<=1)(n5:b5≠bm)(n2:b2≠bm):
 Ret xt 83 [.int .i64 x,ptrTo b5,ptrTo b2] h0 fun r h'=>Mo (· =bm) h0 h'/\r=.bool (decide (x<0\/(N:Int)<=x\/k=1))/\ ∃es' c',h'.get bm=some (.map es' c')/\cR es' c' (da f x (some (.int .i64 (k+1:Nat)))):=by
 have S:=St.init1 ok (o:=.map es c) hm
 have lk:=oZ (x:=x) Tryz.u153 Tryz.u3 (z:=.int .i64 0) (by kernel_rfl) hm MI
 rw [hf]at lk
 have w:ar .i64 ((k:Int)+1)=((k+1:Nat):Int):=by rw [wrap64]<;>omega
 refine ac (n:=22) (rs:=[.tmp 4]) rfl Tryz.e83 rfl rfl rfl (lbt rfl) ?_
 simp only [BS,LB,Nat.reduceLT,Nat.reduceEqDiff,Tryz.FFtb183,e5,lk,w]
 refine aE (S.mputI (i:=0) rfl Tryz.u153 Tryz.u3 MI _) ?_
 clear S;rintro h ⟨_,es',c',MI',S⟩
 simp only [LC]at S
 have e5':=S.old e5 n5
 have e2':=S.old e2 n2
 have hg:h.get bm=some (.map es' c'):=(S.own _ m0).2
 have lk2:=oZ (x:=x) Tryz.u153 Tryz.u3 (z:=.int .i64 0) (by kernel_rfl) hg MI'
 rw [show da f x (some (.int .i64 ((k+1:Nat):Int))) x=some (.int .i64 ((k+1:Nat):Int)) by unfold da;rw [if_pos rfl],Option.getD_some]at lk2
 by_cases c1:x<0
 . simp only [BS,LB,ab,Nat.reduceLT,Nat.reduceEqDiff,c1]
   exact⟨S.fr,by simp [c1],es',c',hg,MI'⟩
 . by_cases c2:(N:Int)<=x
   . simp only [BS,LB,ab,Nat.reduceLT,Nat.reduceEqDiff,Tryz.FFtb183,e2',c1,c2]
     exact⟨S.fr,by simp [c2],es',c',hg,MI'⟩
   . by_cases c3:k=1
     . subst c3
       simp only [BS,LB,ab,Nat.reduceLT,Nat.reduceEqDiff,Nat.reduceAdd,Int.reduceLT,xN,Tryz.FFtb183,e5',e2',c1,c2,lk2]
       exact⟨S.fr,by simp,es',c',hg,MI'⟩
     . have k0:k=0:=by omega
       subst k0
       simp only [BS,LB,ab,Nat.reduceLT,Nat.reduceEqDiff,Int.reduceLT,xN,Tryz.FFtb183,e5',e2',c1,c2,lk2]
       exact⟨S.fr,by simp [c1,c2],es',c',hg,MI'⟩
def OkAt(N:Nat)(l:List Int)(i:Nat):Prop:=0<=l.getD i 0/\l.getD i 0<N/\l.getD i 0∉l.take i
theorem mayIdx_ok {h0:Hp} (ok:h0.t.Sized h0.n) {b5 b2 bm N:Nat} {v:Value} {l:List Int} (hv:ay h0 1 (encI .i64) v l) (hl:l.length<=1000) (e5:h0.load b5 0 1=some [.map (some bm)]) (e2:h0.load b2 0 1=some [.int .i64 N]) (hm:h0.get bm=some (.map [] 0)) (n5:b5≠bm) (n2:b2≠bm):
 Ret xt 127 [v,.func (.func 83) #[] #[ptrTo b5,ptrTo b2]] h0 fun r h'=>Mo (· =bm) h0 h'/\ ∃z,r=.int .i64 z/\(0<=z↔ ¬ ∀i,i<l.length->OkAt N l i):=by
 have hvb: ∀c,av v c-> ¬c=bm:=by
  rintro c hc rfl
  rcases hv with⟨rfl,_⟩|⟨b,o,s,c',rfl,_,h3⟩
  . exact hc.elim
  . have:b=c:=hc
    subst this
    simp [Hp.load,hm]at h3
 refine ac (n:=19) (rs:=[.tmp 4]) rfl Tryz.e127 rfl rfl rfl (lbt rfl) ?_
 simp only [BS,LB,Nat.reduceLT,Nat.reduceEqDiff,Tryz.FFtb1127,hv.lenq]
 refine aT (fun(i:Nat) ρ h=>i<=l.length/\Mo (· =bm) h0 h/\(∃es c f,h.get bm=some (.map es c)/\cR es c f/\ ∀x,f x=if x∈l.take i then some (.int .i64 1)else none)/\(∀j,j<i->OkAt N l j)/\ρ 0=v/\ρ 1=.func (.func 83) #[] #[ptrTo b5,ptrTo b2]/\ρ 7=.int .i64 l.length/\ρ 8=.int .i64 i) (fun i=>l.length-i) ?_ 0 _ _ ?_
 . intro i ih ρ h ⟨hi,mo,⟨es,c,f,hg,MI,hf⟩,hok,r0,r1,r7,r8⟩
   by_cases hlt:i<l.length
   . obtain ⟨q,o,hidx,hld⟩:=(hv.mo mo hvb).ix (kd:=.i64) (cZ .i64) hlt
     have w:ar .i64 ((i:Int)+1)=((i+1:Nat):Int):=by rw [wrap64]<;>omega
     have ld: ∀{b:Nat} {x},b≠bm->h0.load b 0 1=some x->h.load b 0 1=some x:=fun hne e=>by
      have:=mo.get _ (bK mo.ok0 e) hne
      unfold Hp.load at e⊢
      rw [this];exact e
     have gd:l.getD i 0=l[i]:=by simp [xu,hlt]
     simp only [BS,LB,Nat.reduceLT,Nat.reduceEqDiff,Tryz.FFtb1127,r0,r1,r7,r8,aH,hlt,hidx,hld,encI]
     refine step_ret (may1_ok mo.ok (x:=l[i]) (N:=N) (k:=if l[i]∈l.take i then 1 else 0) (ld n5 e5) (ld n2 e2) hg MI (by rw [hf];split<;>rfl) (by split<;>omega) n5 n2) ?_
     rintro r h' ⟨f1,rfl,es',c',hg',MI'⟩
     have mo':=mo.trans f1 (fun _ h=>.inl h)
     by_cases hw:OkAt N l i
     . have e:decide (l[i]<0\/(N:Int)<=l[i]\/(if l[i]∈l.take i then 1 else 0)=1)=false:=by
        obtain⟨w1,w2,w3⟩:=hw
        rw [gd]at w1 w2 w3
        rw [if_neg w3]
        simp;omega
       rw [e]
       have nm:l[i]∉l.take i:=by have:=hw.2.2;rwa [gd]at this
       simp only [BS,LB,Nat.reduceLT,Nat.reduceEqDiff,r8,w]
       refine ih (i+1) _ _ (by omega) ⟨by omega,mo',⟨es',c',_,hg',MI',fun x=>?_⟩,fun j hj=>?_,by simp [aa,r0],by simp [aa,r1,an],by simp [aa,r7],by simp [aa]⟩
       . have et:=xG hlt
         rw [if_neg nm]
         unfold da
         by_cases ex:x=l[i]
         . rw [if_pos ex,if_pos (by rw [et];exact yo _ (List.mem_singleton.2 ex))];rfl
         . rw [if_neg ex,hf]
           have:x∈l.take (i+1)↔x∈l.take i:=by rw [et,List.mem_append,List.mem_singleton];exact⟨fun h=>h.resolve_right ex,.inl⟩
           simp only [this]
       . by_cases e2:j=i
         . subst e2;exact hw
         . exact hok j (by omega)
     . have e:decide (l[i]<0\/(N:Int)<=l[i]\/(if l[i]∈l.take i then 1 else 0)=1)=true:=by
        unfold OkAt at hw
        rw [gd]at hw
        simp only [decide_eq_true_eq]
        by_cases nm:l[i]∈l.take i
        . rw [if_pos nm];exact .inr (.inr rfl)
        . by_cases a1:l[i]<0
          . exact .inl a1
          . by_cases a2:(N:Int)<=l[i]
            . exact .inr (.inl a2)
            . exact absurd ⟨by omega,by omega,nm⟩ hw
       rw [e]
       simp only [BS,LB,ab,Nat.reduceLT,Nat.reduceEqDiff]
       exact⟨mo',_,rfl,by simp only [Int.natCast_nonneg,true_iff];exact fun h=>hw (h i hlt)⟩
   . simp only [BS,LB,ab,Nat.reduceLT,Nat.reduceEqDiff,r7,r8,aH,hlt]
     exact⟨mo,_,rfl,⟨fun h=>by omega,fun h=>absurd (fun j hj=>hok j (by omega)) h⟩⟩
 . exact⟨xB _,Mo.refl ok,⟨[],0,fun _=>none,hm,pY,fun x=>by simp⟩,fun j hj=>by omega,by simp [aa,aQ],by simp [aa,aQ,bO,an],by simp [aa],by simp [aa]⟩
noncomputable instance mayDec(N:Nat)(l:List Int):Decidable (gk N l):=Classical.propDecidable _
theorem mayCf_ok{h0:Hp}(ok:h0.t.Sized h0.n){b5 b2 bm N:Nat}{v:Value}{l:List Int}(hv:ay h0 1 (encI .i64) v l)(hl:l.length<=1000)(e5:h0.load b5 0 1=some [.map (some bm)])(e2:h0.load b2 0 1=some [.int .i64 N])(hm:h0.get bm=some (.map [] 0))(n5:b5≠bm)(n2:b2≠bm)(d:Decidable (∀i,i<l.length->OkAt N l i)):
 Ret xt 84 [v,.func (.func 83) #[] #[ptrTo b5,ptrTo b2]] h0 fun r h'=>Mo (· =bm) h0 h'/\r=.bool (!decide (∀i,i<l.length->OkAt N l i)):=by
 refine ac (n:=9) (rs:=[.tmp 4]) rfl Tryz.e84 rfl rfl rfl (lbt rfl) ?_
 simp only [BS,LB,Nat.reduceLT,Nat.reduceEqDiff]
 refine step_ret (mayIdx_ok ok hv hl e5 e2 hm n5 n2) ?_
 rintro r h ⟨mo,z,rfl,hz⟩
 by_cases c: ∀i,i<l.length->OkAt N l i
 . have c2: ¬(0<=z):=fun h=>hz.1 h c
   simp only [BS,LB,ab,Nat.reduceLT,Nat.reduceEqDiff,c2]
   exact⟨mo,by rw [decide_eq_true c];rfl⟩
 . have c2:0<=z:=hz.2 c
   simp only [BS,LB,ab,Nat.reduceLT,Nat.reduceEqDiff,c2]
   exact⟨mo,by rw [decide_eq_false c];rfl⟩
theorem may_ok{h0:Hp}(ok:h0.t.Sized h0.n){v:Value}{l:List Int}{N:Nat}(hv:ay h0 1 (encI .i64) v l)(hl:l.length<=1000):aZ xt 36 [.int .i64 N,v] h0 (.bool (decide (gk N l))):=by
 have S:=Si ok
 refine ac (n:=18) (rs:=[.tmp 4]) rfl Tryz.e36 rfl rfl rfl (lbt rfl) ?_
 simp only [BS,Nat.reduceLT]
 refine ag (bu (by intro x e;cases e)) S ?_;clear S;intro h b2 S n_b2;simp only [ae]at S
 simp only [BS]
 refine ag rK S ?_;clear S;intro h bm S n_bm
 simp only [BS,Tryz.FFtb136]
 refine ag aD S ?_;clear S;intro h b5 S n_b5
 simp only [BS,LB,Nat.reduceLT,Nat.reduceEqDiff]
 refine aE (aA S (i:=0) rfl ?_ ?_ ?_ ono) ?_
 . exact(by simp only [Tryz.FFtb136])
 . exact(by exact fl_map)
 . exact xI (lbt rfl)
 clear S;rintro h ⟨S,mo⟩;clear mo;simp only [LC,ae,lay,xR,xS,Nat.reduceAdd]at S
 by_cases h16:l.length<=16
 . have c1:(l.length:Int)<=16:=by omega
   simp only [BS,LB,Nat.reduceLT,Nat.reduceEqDiff,Tryz.FFtb136,hv.lenq,c1]
   have ap:=S.apart
   simp only [keys,yt,yx,List.filterMap_nil,List.append_nil,List.nodup_cons,yu,List.not_mem_nil,or_false,not_or]at ap
   have d:Decidable (∀i,i<l.length->OkAt N l i):=Classical.propDecidable _
   refine step_ret (mayCf_ok S.ok (hv.gr S.gr) hl (S.ld (b:=b5) (o:=0) m0 rfl) (S.ld (b:=b2) (o:=0) m2 rfl) (S.own _ m1).2 ap.1.1 (fun e=>ap.2.1 e.symm) d) ?_
   rintro r h ⟨mo,rfl⟩
   have g2:Gr h0 h:=(S.fr.trans mo (fun c hc=>.inr (by subst hc;exact n_bm)):Mo NoM h0 h).gr
   simp only [BS,LB,ab,Nat.reduceLT,Nat.reduceEqDiff]
   refine⟨?_,g2⟩
   congr 1
   by_cases c: ∀i,i<l.length->OkAt N l i
   . have:gk N l:=⟨h16,c⟩
     rw [decide_eq_true c,decide_eq_true this];rfl
   . have: ¬gk N l:=fun h=>c h.2
     rw [decide_eq_false c,decide_eq_false this];rfl
 . have c1: ¬(l.length:Int)<=16:=by omega
   simp only [BS,LB,ab,Nat.reduceLT,Nat.reduceEqDiff,Tryz.FFtb136,hv.lenq,c1]
   exact⟨by have: ¬gk N l:=fun h=>h16 h.1;simp [this],S.gr⟩
open Tryz in
def Tryz.FFtb286:=aj a1<|aj s1<|aj z1<|aj n1<|aj u2<|aj a2<|aj s2<|aj z2<|aj i2<|aj u3<|aj a3<|aj s3<|aj z3<|aj i3<|aj u4<|aj a4<|aj s4<|aj z4<|aj n4<|aj u25<|aj a25<|aj s25<|aj z25<|aj q25<|aj n25<|aj a30<|aj s30<|aj z30<|aj i30<|aj n30<|aj p30<|aj ff30<|aj d30<|aj u32<|aj a32<|aj s32<|aj z32<|aj q32<|aj i32<|aj n32<|aj u40<|aj a40<|aj s40<|aj z40<|aj q40<|aj n40<|aj a94<|aj s94<|aj z94<|aj n94<|aj a127<|aj s127<|aj z127<|aj n127<|aj u146<|aj a146<|aj s146<|aj z146<|aj q146<|aj n146<|aj a148<|aj s148<|aj z148<|aj i148<|aj n148<|aj p148<|aj ff148<|aj d148<|aj a158<|aj s158<|aj z158<|aj i158<|aj n158<|aj p158<|aj ff158<|d158
open Tryz in
def Tryz.FFtb285:=aj a1<|aj s1<|aj z1<|aj n1<|aj u2<|aj a2<|aj s2<|aj z2<|aj i2<|aj u3<|aj a3<|aj s3<|aj z3<|aj i3<|aj u4<|aj a4<|aj s4<|aj z4<|aj n4<|aj u6<|aj a6<|aj s6<|aj z6<|aj i6<|aj a7<|aj s7<|aj z7<|aj i7<|aj n7<|aj p7<|aj ff7<|aj d7<|aj u25<|aj a25<|aj s25<|aj z25<|aj q25<|aj n25<|aj u71<|aj a71<|aj s71<|aj z71<|aj q71<|aj n71<|aj a92<|aj s92<|aj z92<|n92
open Classical in
noncomputable def dOf(B:List Arc)(s v:Nat):Nat:=if h: ∃x,IsD B s v x then h.choose else 0
theorem dOf_is{B:List Arc}{s v x:Nat}(h:IsD B s v x):dOf B s v=x/\IsD B s v (dOf B s v):=by
 have he: ∃x,IsD B s v x:=⟨x,h⟩
 have e:dOf B s v=he.choose:=by unfold dOf;rw [dif_pos he]
 rw [e]
 exact⟨he.choose_spec.uniq h,he.choose_spec⟩
noncomputable def iU(B:List Arc)(N s:Nat):List Int:=(xx N).map fun v=>((dOf B s v:Nat):Int)
theorem rowD_of{B:List Arc}{N s:Nat}{D:Nat->Nat}(h: ∀v,IsD B s v (D v)):((xx N).map D).map (fun(x:Nat)=>(x:Int))=iU B N s:=by
 unfold iU
 rw [List.map_map]
 refine yv fun v _=>?_
 show((D v:Nat):Int)=_
 rw [(dOf_is (h v)).1]
def RunF(E:Env)(g:FuncId)(γ:Gra)(pn:Value)(B:List Arc):Prop:= ∀(h:Hp) (nb:Nat),h.t.Sized h.n->bT h nb pn γ-> ∀s,s<γ.nodes->Ret E g [pn,.int .i64 (s:Nat)] h fun r h'=>Gr h h'/\qR h' h.n r B s γ.nodes
theorem runTo{γ:Gra}(hγ:Good γ){pn:Value}:RunF xt 41 γ pn (seen γ.arcs Arc.t Arc.s):=fun h nb ok hn s hs=>rf ok hγ hn hs
theorem runFrom{γ:Gra}(hγ:Good γ){pn:Value}:RunF xt 42 γ pn (seen γ.arcs Arc.s Arc.t):=fun h nb ok hn s hs=>oq ok hγ hn hs
def PRow(m:Nat)(R:Nat->List Int)(i:Nat)(h:Hp)(F:List Nat)(x:List Value):Prop:= ∃w,x=[w]/\ay h 1 (encI .i64) w (R i)/\ ∀c,av w c->m<=c/\c∉F
theorem rows_ok{h0:Hp}(ok:h0.t.Sized h0.n){p vl ve:Value}(f1:Fl p)(f2:Fl vl)(f3:Fl ve):Ret xt 40 [p,vl,ve] h0 fun v h'=>Gr h0 h'/\ ∃b1 b2 b3,v=.func (.func 86) #[] #[ptrTo b1,ptrTo b2,ptrTo b3]/\h0.n<=b1/\h0.n<=b2/\h0.n<=b3/\h'.load b1 0 1=some [vl]/\h'.load b2 0 1=some [ve]/\h'.load b3 0 1=some [p]:=by
 have S:=Si ok
 refine ac (n:=8) (rs:=[.tmp 6]) rfl Tryz.e40 rfl rfl rfl (lbt rfl) ?_
 simp only [BS,Nat.reduceLT]
 refine ag (cM (by assumption)) S ?_;clear S;intro h b3 S n_b3
 simp only [BS,Nat.reduceLT,Nat.reduceEqDiff,if_false]
 refine ag (cM (by assumption)) S ?_;clear S;intro h b1 S n_b1
 simp only [BS,Nat.reduceLT,Nat.reduceEqDiff,if_false]
 refine ag (cM (by assumption)) S ?_;clear S;intro h b2 S n_b2
 simp only [BS,LB,ab,Nat.reduceLT,Nat.reduceEqDiff]
 exact⟨S.gr,b1,b2,b3,rfl,n_b1,n_b2,n_b3,S.ld m1 rfl,S.ld m0 rfl,S.ld m2 rfl⟩
theorem rows_it{hq h0:Hp}(okq:hq.t.Sized hq.n)(ok0:h0.t.Sized h0.n)(kq:gc hq h0)(nq:hq.n<=h0.n){pn vl:Value}{γ:Gra}{nb b1 b2 b3 m:Nat}(hn:bT hq nb pn γ){l:List Int}(hl:ay h0 1 (encI .i64) vl l)(hok: ∀i,i<l.length->0<=l.getD i 0/\l.getD i 0<γ.nodes)(hlen:l.length<1000){g:FuncId}{B:List Arc}(hr:RunF xt g γ pn B)(hm:m<=h0.n)
 (e1:h0.load b1 0 1=some [vl]) (e2:h0.load b2 0 1=some [.func (.func g) #[] #[]]) (e3:h0.load b3 0 1=some [pn]):
 IterP xt 86 [ptrTo b1,ptrTo b2,ptrTo b3] h0 (fun c=>c=b1\/c=b2\/c=b3\/av vl c\/c<hq.n) l.length (PRow m fun i=>iU B γ.nodes (l.getD i 0).toNat):=by
 intro lb J Y h F s hj
 refine enter (n:=22) (rs:=[]) rfl Tryz.e86 rfl rfl rfl (lbt rfl) ?_
 have l1:=s.load ok0 e1 (.inl rfl)
 simp only [BS,LB,Nat.reduceLT,Tryz.FFtb286,l1,hl.lenq]
 refine aT (fun(i:Nat) ρ h=>i<=l.length/\ ∃F,ItS h0 (fun c=>c=b1\/c=b2\/c=b3\/av vl c\/c<hq.n) h F/\J i h F/\ρ 0=.func (.yield lb) #[] #[]/\ρ 2=ptrTo b2/\ρ 3=ptrTo b3/\ρ 7=vl/\ρ 8=.int .i64 l.length/\ρ 9=.int .i64 i) (fun i=>l.length-i) ?_ 0 _ _ ?_
 . clear l1
   intro i ih ρ h ⟨hi,F,s,hj,r0,r2,r3,r7,r8,r9⟩
   by_cases hlt:i<l.length
   . obtain⟨c,o,hidx,hld⟩:=(s.sl ok0 hl (fun b h=>.inr (.inr (.inr (.inl h))))).ix (kd:=.i64) (cZ .i64) hlt
     have l2:=s.load ok0 e2 (.inr (.inl rfl))
     have l3:=s.load ok0 e3 (.inr (.inr (.inl rfl)))
     have nt:bT h nb pn γ:=hn.keep okq (s.keep kq nq (fun c hc=>.inr (.inr (.inr (.inr hc)))))
     have w:ar .i64 ((i:Int)+1)=((i+1:Nat):Int):=by rw [wrap64]<;>omega
     have gd:l.getD i 0=l[i]:=by simp [xu,hlt]
     have hb:=hok i hlt
     rw [gd]at hb
     obtain⟨mk,emk⟩: ∃k:Nat,l[i]=k:=⟨l[i].toNat,by omega⟩
     rw [emk]at hld hb
     simp only [BS,LB,Nat.reduceLT,Nat.reduceEqDiff,Tryz.FFtb286,r0,r2,r3,r7,r8,r9,aH,hlt,hidx,hld,encI,l2,l3]
     refine step_ret (hr h nb s.ok nt mk (by omega)) ?_
     rintro v h2 ⟨g1,vD,vA,vO,D,aL,O,rfl,s1,s2,s3,t4,t5,t6,t7,t8⟩
     simp only [BS,LB,Nat.reduceLT,Nat.reduceEqDiff,Tryz.FFtb286]
     refine vc Y (s.gr g1) (Y.gr _ _ _ _ hj g1) (i:=i) hlt ⟨vD,rfl,?_,fun c hc=>⟨?_,fun hF=>?_⟩⟩ ?_
     . have:=rj s1
       rw [rowD_of t5]at this
       show ay h2 1 _ vD (iU B γ.nodes (l.getD i 0).toNat)
       rw [gd,emk]
       exact this
     . exact xz hm (xz s.n (t6 c (.inl hc)))
     . have h1:=s.lt c hF
       have h2:=t6 c (.inl hc)
       omega
     . intro h' F' a s' _ _
       simp only [BS,LB,Nat.reduceLT,Nat.reduceEqDiff,r9,w]
       exact ih (i+1) _ _ (by omega) ⟨by omega,F',s',a,by simp [aa,r0],by simp [aa,r2,an],by simp [aa,r3,an],by simp [aa,r7],by simp [aa,r8],by simp [aa]⟩
   . simp only [BS,LB,Nat.reduceLT,r8,r9,aH,hlt]
     have:i=l.length:=by omega
     subst this
     exact dB (dr ⟨rfl,_,rfl,rfl,_,F,rfl,hj⟩)
 . exact⟨by omega,F,s,hj,by simp [aa,cg],by simp [aa,cg,an],by simp [aa,cg,an],by simp [aa],by simp [aa],by simp [aa]⟩
theorem tg {h0:Hp} (ok:h0.t.Sized h0.n) {g:FuncId} {post:Array Value} {D:Nat->Prop} {n m:Nat} {R:Nat->List Int} (it:IterP xt g post.toList h0 D n (PRow m R)) (hm:m<=h0.n) (hn:n<1000):
 Ret xt 85 [.slice none 0 0,.func (.func g) #[] post] h0 fun r h'=>Gr h0 h'/\eZ h' m r n R:=by
 have S:=Si ok
 refine ac (n:=13) (rs:=[.tmp 4]) rfl Tryz.e85 rfl rfl rfl (lbt rfl) ?_
 simp only [BS,Nat.reduceLT]
 refine ag (cM (by exact bF)) S ?_;clear S;intro h b2 S n_b2
 simp only [BS,Nat.reduceLT,Nat.reduceEqDiff,if_false]
 replace S:=S.nilG (k:=1)
 have g0:=S.gr
 refine jv S (g:=g) (a:=#[]) (b:=post) (by simp [bU,aa,aQ,bO]) rfl rfl ?_
 intro h2 db lb S' hdb hlb g2
 obtain⟨X,hX,S'⟩: ∃X:fm,X=_/\St NoM h0 h2 [(lb,.loop X),(db,.dfr),(b2,.row [.slice none 0 0] 1)] [(.slice none 0 0,1,[])]:=⟨_,rfl,S'⟩
 have hJ:YldP xt lb (fun k h' F=> ∃(ws:List Value) (vR:Value),St NoM h0 h' [(lb,.loop X),(db,.dfr),(b2,.row [vR] 1)] [(vR,1,ws)]/\ws.length=k/\k<=n/\(∀i w,ws[i]? =some w->ay h' 1 (encI .i64) w (R i)/\ ∀c,av w c->m<=c/\c∉F)/\F=keys [(lb,.loop X),(db,.dfr),(b2,.row [vR] 1)] [(vR,1,ws)]) n (PRow m R):=by
  refine⟨?_,?_,?_⟩
  . rintro i h F ⟨ws,vR,S,_,_,_,rfl⟩;exact⟨S.ok,fun b hb=>S.key_lt hb⟩
  . rintro i h F h' ⟨ws,vR,S,a,b,c,rfl⟩ gg;exact⟨ws,vR,S.call gg,a,b,fun i w hw=>⟨(c i w hw).1.gr gg,(c i w hw).2⟩,rfl⟩
  . rintro i x hR F hi ⟨w,rfl,sw,hw⟩ ⟨ws,vR,S,a,b,c,rfl⟩
    subst hX
    obtain⟨wa,wn,wc,rfl⟩:=sw.form
    have fw:Fl (.slice wa wn wc):=bF
    refine jw (S.get m0) (by rw [Tryz.e85];rfl) rfl ?_
    have S0:=S
    replace S:=S.base
    simp only [BS,LB,Nat.reduceLT,Nat.reduceEqDiff]
    refine iO S (i:=0) rfl rfl rfl rfl rfl ?_
    clear S;intro h S
    simp only [LC]at S
    simp only [BS,LB,Nat.reduceLT,Nat.reduceEqDiff,Tryz.FFtb285,S.ld (b:=b2) (o:=0) m2 rfl]
    refine ag (bH (by exact Tryz.u71) (by exact Tryz.e25E) (by decide) (by rfl)) S ?_;clear S;intro h bs S n_bs;simp only [LC,aR,bj,ae,Nat.reduceMul,Nat.reduceAdd,xF,xH,xC,xM]at S
    simp only [BS,LB,Nat.reduceLT,Nat.reduceEqDiff]
    have src:aJ h 1 (.slice (some ⟨bs,0,none⟩) 1 1)=some (1,[.slice wa wn wc]):=by simp only [aJ];rw [S.lds (b:=bs) (o:=0) (n:=1*1) m0 (lbt rfl)];rfl
    replace S:=S.drop1
    refine eo (S.grow (j:=0) (m:=1) (new:=[.slice wa wn wc]) rfl Tryz.u71 Tryz.e25E (by decide) Tryz.n71 src rfl (by decide) (by simp [fw.2.1]) (by simp;omega)) ?_
    clear S src;rintro h vR' S
    simp only [LC]at S
    have fv:Fl vR':=by
     rcases(S.gown _ m0).1 with⟨e,_⟩|⟨_,_,e,_⟩
     . rw [show vR'=_ from e];exact bF
     . rw [show vR'=_ from e];exact bF
    simp only [BS,LB,Nat.reduceLT,Nat.reduceEqDiff]
    refine aE (aA S (i:=2) rfl Tryz.s71 fv (xI (lbt rfl)) ono) ?_
    clear S;rintro h ⟨S,_⟩
    simp only [LC]at S
    simp only [BS]
    refine eY S (i:=0) rfl ?_
    clear S;intro h S
    simp only [LC]at S
    refine⟨rfl,_,⟨ws++[.slice wa wn wc],vR',S0.rebase S,by simp [a],by omega,fun j u hu=>?_,rfl⟩,S.fr,S.key_new⟩
    have key:ay h 1 (encI .i64) u (R j)/\ ∀c,av u c->m<=c/\c∉keys [(lb,Ob.dfr),(db,.dfr),(b2,.dfr)] [(vR,1,ws)]/\c<hR.n:=by
     by_cases hj:j<ws.length
     . rw [ye hj]at hu
       obtain⟨q1,q2⟩:=c j u hu
       exact⟨q1.mo S.fr (fun x hx hM=>(q2 x hx).2 hM),fun x hx=>⟨(q2 x hx).1,(q2 x hx).2,q1.lt S0.ok hx⟩⟩
     . rw [List.getElem?_append_right (by omega)]at hu
       have hj2:j-ws.length=0:=by
        have:=(List.getElem?_eq_some_iff.1 hu).1
        simp at this;omega
       rw [hj2]at hu
       cases hu
       have:j=ws.length:=by omega
       subst this
       rw [a]
       exact⟨sw.mo S.fr (fun x hx hM=>(hw x hx).2 hM),fun x hx=>⟨(hw x hx).1,(hw x hx).2,sw.lt S0.ok hx⟩⟩
    refine⟨key.1,fun x hx=>⟨(key.2 x hx).1,fun hm=>?_⟩⟩
    rcases S.key_new x hm with h1|h1
    . exact(key.2 x hx).2.1 h1
    . have:=(key.2 x hx).2.2;omega
 refine gJ (it lb _ hJ h2 _ ?_ ⟨[],_,S',rfl,xB _,fun i w hw=>by simp at hw,rfl⟩) ?_
 . exact⟨S'.ok,S'.fr.n,fun b hb _=>S'.gr.get b hb,fun b hb h=>by have:=(S'.key_own hb).elim (fun h=>h) (fun h=>h.elim);omega,fun b hb=>S'.key_lt hb⟩
 . rintro o rc h' ⟨rfl,u,F,rfl,ws,vR,T,a,_,c,rfl⟩
   subst hX
   refine⟨_,T.get m0,Nat.zero_ne_one,?_⟩
   have c2: ∀i w,ws[i]? =some w->ay (h'.put lb .dead) 1 (encI .i64) w (R i)/\ ∀c,av w c->m<=c/\c∉keys [(db,.dfr),(b2,.row [vR] 1)] [(vR,1,ws)]:=fun i w hw=>by
    obtain⟨q1,q2⟩:=c i w hw
    exact⟨q1.mo ((Mo.refl (M:=(· =lb)) T.ok).put (.inr rfl) .dead) (fun x hx e=>(q2 x hx).2 (by rw [e];exact m0)),fun x hx=>⟨(q2 x hx).1,fun hm=>(q2 x hx).2 (List.mem_cons_of_mem _ hm)⟩⟩
   replace T:=T.dead
   have S:=T
   show Run _ _ _ _ _ _ _ _
   simp only [BS,LB,Nat.reduceLT,Nat.reduceEqDiff,Tryz.FFtb285,S.ld (b:=b2) (o:=0) m1 rfl]
   refine gy (jM [db] _ (L:=[(b2,_)]) T.base fun h3 S3=>⟨rfl,_,rfl,?_⟩)
   refine⟨(T.fr.trans S3.fr (fun c hc=>(T.key_own hc).symm):Mo NoM h0 h3).gr,ws,?_,a,fun x hx=>?_,fun i w hw=>⟨(c2 i w hw).1.mo S3.fr (fun x hx hM=>((c2 i w hw).2 x hx).2 hM),fun x hx=>((c2 i w hw).2 x hx).1⟩⟩
   . exact(S3.gown _ m0).1.sl (flat_encV ws).symm uw (by decide)
   . exact xz hm (((T.gblk m0 hx).1).elim (fun h=>h) (fun h=>h.elim))
theorem qJ{h0:Hp}(ok:h0.t.Sized h0.n){g:FuncId}{post:Array Value}{D:Nat->Prop}{n m:Nat}{R:Nat->List Int}(it:IterP xt g post.toList h0 D n (PRow m R))(hm:m<=h0.n)(hn:n<1000):
 Ret xt 39 [.func (.func g) #[] post] h0 fun r h'=>Gr h0 h'/\eZ h' m r n R:=by
 have S:=Si ok
 refine ac (n:=5) (rs:=[.tmp 2]) rfl Tryz.e39 rfl rfl rfl (lbt rfl) ?_
 simp only [BS,LB,Nat.reduceLT,Nat.reduceEqDiff]
 refine step_ret (tg S.ok it hm hn) ?_;intro v h ⟨g,L⟩;replace S:=S.call g;clear g
 simp only [BS,LB,ab,Nat.reduceLT,Nat.reduceEqDiff]
 exact⟨S.gr,L⟩
open Tryz in
def Tryz.FFtb311:=aj a1<|aj s1<|aj z1<|aj n1<|aj u2<|aj a2<|aj s2<|aj z2<|aj i2<|aj u3<|aj a3<|aj s3<|aj z3<|aj i3<|aj u4<|aj a4<|aj s4<|aj z4<|aj n4<|aj u25<|aj a25<|aj s25<|aj z25<|aj q25<|aj n25<|aj a30<|aj s30<|aj z30<|aj i30<|aj n30<|aj p30<|aj ff30<|aj d30<|aj u32<|aj a32<|aj s32<|aj z32<|aj q32<|aj i32<|aj n32<|aj u38<|aj a38<|aj s38<|aj z38<|aj q38<|aj i38<|aj n38<|aj u40<|aj a40<|aj s40<|aj z40<|aj q40<|aj n40<|aj u71<|aj a71<|aj s71<|aj z71<|aj q71<|aj n71<|aj a92<|aj s92<|aj z92<|aj n92<|aj a94<|aj s94<|aj z94<|aj n94<|aj a96<|aj s96<|aj z96<|aj i96<|aj n96<|aj p96<|aj ff96<|aj d96<|aj u146<|aj a146<|aj s146<|aj z146<|aj q146<|aj n146<|aj a148<|aj s148<|aj z148<|aj i148<|aj n148<|aj p148<|aj ff148<|d148
open Tryz in
def Tryz.FFtb358:=aj a1<|aj s1<|aj z1<|aj n1<|aj u2<|aj a2<|aj s2<|aj z2<|aj i2<|aj u3<|aj a3<|aj s3<|aj z3<|aj i3<|aj u4<|aj a4<|aj s4<|aj z4<|aj n4<|aj u25<|aj a25<|aj s25<|aj z25<|aj q25<|aj n25<|aj u38<|aj a38<|aj s38<|aj z38<|aj q38<|aj i38<|aj n38<|aj u40<|aj a40<|aj s40<|aj z40<|aj q40<|aj n40<|aj u71<|aj a71<|aj s71<|aj z71<|aj q71<|aj n71<|aj a96<|aj s96<|aj z96<|aj i96<|aj n96<|aj p96<|aj ff96<|d96
open Tryz in
def Tryz.FFtb346:=aj a1<|aj s1<|aj z1<|aj n1<|aj u2<|aj a2<|aj s2<|aj z2<|aj i2<|aj u3<|aj a3<|aj s3<|aj z3<|aj i3<|aj u4<|aj a4<|aj s4<|aj z4<|aj n4<|aj u25<|aj a25<|aj s25<|aj z25<|aj q25<|aj n25<|aj u38<|aj a38<|aj s38<|aj z38<|aj q38<|aj i38<|aj n38<|aj u40<|aj a40<|aj s40<|aj z40<|aj q40<|aj n40<|aj u71<|aj a71<|aj s71<|aj z71<|aj q71<|aj n71<|aj a96<|aj s96<|aj z96<|aj i96<|aj n96<|aj p96<|aj ff96<|d96
open Tryz in
def Tryz.FFtb363:=aj a1<|aj s1<|aj z1<|aj n1<|aj u2<|aj a2<|aj s2<|aj z2<|aj i2<|aj u3<|aj a3<|aj s3<|aj z3<|aj i3<|aj u25<|aj a25<|aj s25<|aj z25<|aj q25<|aj n25<|aj u38<|aj a38<|aj s38<|aj z38<|aj q38<|aj i38<|aj n38<|aj u40<|aj a40<|aj s40<|aj z40<|aj q40<|aj n40<|aj u71<|aj a71<|aj s71<|aj z71<|aj q71<|aj n71<|aj a96<|aj s96<|aj z96<|aj i96<|aj n96<|aj p96<|aj ff96<|d96
open Tryz in
def Tryz.FFtb3147:=aj a1<|aj s1<|aj z1<|aj n1<|aj u2<|aj a2<|aj s2<|aj z2<|aj i2<|aj u3<|aj a3<|aj s3<|aj z3<|aj i3<|aj u25<|aj a25<|aj s25<|aj z25<|aj q25<|aj n25<|aj u38<|aj a38<|aj s38<|aj z38<|aj q38<|aj i38<|aj n38<|aj u40<|aj a40<|aj s40<|aj z40<|aj q40<|aj n40<|aj u71<|aj a71<|aj s71<|aj z71<|aj q71<|aj n71<|aj a96<|aj s96<|aj z96<|aj i96<|aj n96<|aj p96<|aj ff96<|d96
open Tryz in
def Tryz.FFtb362:=aj a1<|aj s1<|aj z1<|aj n1<|aj u2<|aj a2<|aj s2<|aj z2<|aj i2<|aj u3<|aj a3<|aj s3<|aj z3<|aj i3<|aj u4<|aj a4<|aj s4<|aj z4<|aj n4<|aj u25<|aj a25<|aj s25<|aj z25<|aj q25<|aj n25<|aj u38<|aj a38<|aj s38<|aj z38<|aj q38<|aj i38<|aj n38<|aj u40<|aj a40<|aj s40<|aj z40<|aj q40<|aj n40<|aj u71<|aj a71<|aj s71<|aj z71<|aj q71<|aj n71<|aj a96<|aj s96<|aj z96<|aj i96<|aj n96<|aj p96<|aj ff96<|aj d96<|aj a124<|aj s124<|aj z124<|n124
noncomputable def toR(γ:Gra)(l:List Int)(i:Nat):List Int:=iU (seen γ.arcs Arc.t Arc.s) γ.nodes (l.getD i 0).toNat
noncomputable def frR(γ:Gra)(l:List Int)(i:Nat):List Int:=iU (seen γ.arcs Arc.s Arc.t) γ.nodes (l.getD i 0).toNat
theorem tabOf_ok{h0:Hp}(ok:h0.t.Sized h0.n){γ:Gra}(hγ:Good γ){pn vl:Value}{nb:Nat}(hn:bT h0 nb pn γ){l:List Int}(hl:ay h0 1 (encI .i64) vl l)(hlen:l.length<1000):
 Ret xt 11 [pn,vl] h0 fun r h'=>Gr h0 h'/\((¬gk γ.nodes l/\r=.pointer none)\/(gk γ.nodes l/\TabAt h' h0.n r γ.nodes l (toR γ l) (frR γ l))):=by
 have S:=Si ok
 obtain⟨bp,rfl⟩: ∃b,pn=ptrTo b:=by obtain⟨b,_,_,_,_,_,e,_⟩:=hn.ex;exact⟨b,e⟩
 refine ac (n:=28) (rs:=[.tmp 4]) rfl Tryz.e11 rfl rfl rfl (lbt rfl) ?_
 simp only [BS,LB,Nat.reduceLT,Nat.reduceEqDiff,Tryz.FFtb311]
 refine au (cB S.ok (hn.gr S.gr)) ?_;intro h g;replace S:=S.call g;clear g
 simp only [BS,LB,Nat.reduceLT,Nat.reduceEqDiff]
 refine au (may_ok S.ok (hl.gr S.gr) (by omega)) ?_;intro h g;replace S:=S.call g;clear g
 by_cases hm:gk γ.nodes l
 . have hd:decide (gk γ.nodes l)=true:=decide_eq_true hm
   simp only [BS,LB,Nat.reduceLT,Nat.reduceEqDiff,hd]
   refine au (cB S.ok (hn.gr S.gr)) ?_;intro h g;replace S:=S.call g;clear g
   simp only [BS,LB,Nat.reduceLT,Nat.reduceEqDiff]
   have k1:=S.fr.n
   refine step_ret (kg S.ok (cZ .i64) (hl.gr S.gr) (by omega)) ?_;intro v h ⟨g,slM,hM⟩;replace S:=S.call g;clear g
   rename Value=>vM
   obtain⟨ma,mn,mc,rfl⟩:=slM.form
   simp only [BS,LB,Nat.reduceLT,Nat.reduceEqDiff]
   refine step_ret (rows_ok S.ok eG hl.fl jx) ?_;intro v h ⟨g,b1,b2,b3,e,q1,q2,q3,y1,y2,y3⟩;replace S:=S.call g;replace slM:=slM.gr g;clear g
   subst e
   simp only [BS,LB,Nat.reduceLT,Nat.reduceEqDiff]
   have it:=rows_it ok S.ok S.gr.keep S.fr.n hn (hl.gr S.gr) (fun i hi=>⟨(hm.2 i hi).1,(hm.2 i hi).2.1⟩) hlen (runTo hγ) (m:=h0.n) S.fr.n y1 y2 y3
   refine step_ret (qJ S.ok it S.fr.n hlen) ?_;intro v h ⟨g,L1⟩;replace S:=S.call g;replace slM:=slM.gr g;clear g
   rename Value=>vT
   obtain⟨ta,tn,tc,rfl⟩: ∃a n c,vT=.slice a n c:=by obtain⟨_,s,_⟩:=L1;exact s.form
   clear it y1 y2 y3 q1 q2 q3
   simp only [BS,LB,Nat.reduceLT,Nat.reduceEqDiff]
   refine step_ret (rows_ok S.ok eG hl.fl jx) ?_;intro v h ⟨g,b1,b2,b3,e,q1,q2,q3,y1,y2,y3⟩;replace S:=S.call g;replace slM:=slM.gr g;replace L1:=L1.gr g;clear g
   subst e
   simp only [BS,LB,Nat.reduceLT,Nat.reduceEqDiff]
   have it:=rows_it ok S.ok S.gr.keep S.fr.n hn (hl.gr S.gr) (fun i hi=>⟨(hm.2 i hi).1,(hm.2 i hi).2.1⟩) hlen (runFrom hγ) (m:=h0.n) S.fr.n y1 y2 y3
   refine step_ret (qJ S.ok it S.fr.n hlen) ?_;intro v h ⟨g,L2⟩;replace S:=S.call g;replace slM:=slM.gr g;replace L1:=L1.gr g;clear g
   rename Value=>vF
   obtain⟨fa,fn,fc,rfl⟩: ∃a n c,vF=.slice a n c:=by obtain⟨_,s,_⟩:=L2;exact s.form
   simp only [BS,LB,Nat.reduceLT,Nat.reduceEqDiff,Nat.reduceAdd,Tryz.FFtb311]
   have Sb:=S
   replace S:=S.base
   refine ag (bu (by intro x e;cases e)) S ?_;clear S;intro h b S n_b;simp only [ae]at S
   simp only [BS,LB,ab,Nat.reduceLT,Nat.reduceEqDiff]
   have f2:=S.fr
   have slM2:=slM.mo f2 (fun c _ hm=>by cases hm)
   have L1':=L1.mo f2 (fun c hm=>by cases hm)
   have L2':=L2.mo f2 (fun c hm=>by cases hm)
   have hMt:=S.row (b:=b) m0
   replace S:=Sb.rebase S
   exact⟨S.gr,.inr ⟨hm,⟨b,_,_,_,rfl,hMt,slM2,L1',L2',(S.own _ m0).1.elim (fun h=>h) (fun h=>h.elim),fun c hc=>xz k1 (hM c hc)⟩⟩⟩
 . have hd:decide (gk γ.nodes l)=false:=decide_eq_false hm
   simp only [BS,LB,ab,Nat.reduceLT,Nat.reduceEqDiff,hd]
   exact⟨S.gr,.inl hm⟩
theorem mz{h0:Hp}(ok:h0.t.Sized h0.n){m N:Nat}{p:Value}{l:List Int}{R Q:Nat->List Int}(t:TabAt h0 m p N l R Q):aZ xt 58 [p] h0 (.int .i64 N):=by
 have S:=Si ok
 obtain⟨b,vM,vT,vF,rfl,hr,_⟩:=t.ex
 have l0:=hr.load1 (o:=0) rfl
 refine ac (n:=9) (rs:=[.tmp 2]) rfl Tryz.e58 rfl rfl rfl (lbt rfl) ?_
 simp only [BS,LB,ab,Nat.reduceLT,Nat.reduceEqDiff,Tryz.FFtb358,l0]
 exact S.gr
theorem j7{h0:Hp}(ok:h0.t.Sized h0.n){m N:Nat}{p:Value}{l:List Int}{R Q:Nat->List Int}(t:TabAt h0 m p N l R Q)(hlen:l.length<1000):Ret xt 46 [p] h0 fun r h'=>Gr h0 h'/\ay h' 1 (encI .i64) r l/\ ∀c,av r c->h0.n<=c:=by
 have S:=Si ok
 obtain⟨b,vM,vT,vF,rfl,hr,sM,_⟩:=t.ex
 have l0:=hr.load1 (o:=1) rfl
 refine ac (n:=10) (rs:=[.tmp 2]) rfl Tryz.e46 rfl rfl rfl (lbt rfl) ?_
 simp only [BS,LB,Nat.reduceLT,Nat.reduceEqDiff,Tryz.FFtb346,l0]
 refine step_ret (kg S.ok (cZ .i64) sM (by omega)) ?_;intro v h ⟨g,sl,hc⟩;replace S:=S.call g;clear g
 simp only [BS,LB,ab,Nat.reduceLT,Nat.reduceEqDiff]
 exact⟨S.gr,sl,hc⟩
def ep(N n:Nat)(R:Nat->List Int)(i v:Int):Int:=if 0<=i/\i<n/\0<=v/\v<N then(R i.toNat).getD v.toNat 0 else 72057594037927936
theorem tos_ok{h0:Hp}(ok:h0.t.Sized h0.n){m N:Nat}{p:Value}{l:List Int}{R Q:Nat->List Int}(t:TabAt h0 m p N l R Q):Ret xt 63 [p] h0 fun r h'=>Gr h0 h'/\eZ h' m r l.length R:=by
 have S:=Si ok
 obtain⟨b,vM,vT,vF,rfl,hr,_,L,_⟩:=t.ex
 have l0:=hr.load1 (o:=2) rfl
 refine ac (n:=7) (rs:=[.tmp 2]) rfl Tryz.e63 rfl rfl rfl (lbt rfl) ?_
 simp only [BS,LB,ab,Nat.reduceLT,Nat.reduceEqDiff,Tryz.FFtb363,l0]
 exact⟨S.gr,L⟩
theorem froms_ok{h0:Hp}(ok:h0.t.Sized h0.n){m N:Nat}{p:Value}{l:List Int}{R Q:Nat->List Int}(t:TabAt h0 m p N l R Q):Ret xt 147 [p] h0 fun r h'=>Gr h0 h'/\eZ h' m r l.length Q:=by
 have S:=Si ok
 obtain⟨b,vM,vT,vF,rfl,hr,_,_,L,_⟩:=t.ex
 have l0:=hr.load1 (o:=3) rfl
 refine ac (n:=7) (rs:=[.tmp 2]) rfl Tryz.e147 rfl rfl rfl (lbt rfl) ?_
 simp only [BS,LB,ab,Nat.reduceLT,Nat.reduceEqDiff,Tryz.FFtb3147,l0]
 exact⟨S.gr,L⟩
theorem tt{h0:Hp}(ok:h0.t.Sized h0.n){m N:Nat}{p:Value}{l:List Int}{R Q W:Nat->List Int}(t:TabAt h0 m p N l R Q){g:FuncId}(hg: ∀h,Gr h0 h->Ret xt g [p] h fun r h'=>Gr h h'/\eZ h' m r l.length W)(hW: ∀i,i<l.length->(W i).length=N){i v:Int}:
 aZ xt 62 [p,.func (.func g) #[p] #[],.int .i64 i,.int .i64 v] h0 (.int .i64 (ep N l.length W i v)):=by
 have S:=Si ok
 obtain⟨b,vM,vT,vF,rfl,hr,sM,_⟩:=t.ex
 have l0:=hr.load1 (o:=0) rfl
 have l1:=hr.load1 (o:=1) rfl
 unfold ep
 refine ac (n:=44) (rs:=[.tmp 8]) rfl Tryz.e62 rfl rfl rfl (lbt rfl) ?_
 by_cases c1:i<0
 . rw [if_neg (by omega)]
   simp only [BS,LB,ab,Nat.reduceLT,Nat.reduceEqDiff,Tryz.FFtb362,c1]
   exact S.gr
 . by_cases c2:(l.length:Int)<=i
   . rw [if_neg (by omega)]
     simp only [BS,LB,ab,Nat.reduceLT,Nat.reduceEqDiff,Tryz.FFtb362,l1,c1,c2,sM.lenq]
     exact S.gr
   . by_cases c3:v<0
     . rw [if_neg (by omega)]
       simp only [BS,LB,ab,Nat.reduceLT,Nat.reduceEqDiff,Tryz.FFtb362,l1,c1,c2,c3,sM.lenq]
       exact S.gr
     . by_cases c4:(N:Int)<=v
       . rw [if_neg (by omega)]
         simp only [BS,LB,ab,Nat.reduceLT,Nat.reduceEqDiff,Tryz.FFtb362,l0,l1,c1,c2,c3,c4,sM.lenq]
         exact S.gr
       . rw [if_pos (by omega)]
         obtain⟨i',rfl⟩:=xJ (show 0<=i by omega)
         obtain⟨v',rfl⟩:=xJ (show 0<=v by omega)
         simp only [BS,LB,Nat.reduceLT,Nat.reduceEqDiff,Tryz.FFtb362,l0,l1,c1,c2,c3,c4,sM.lenq]
         refine step_ret (hg _ S.gr) ?_;intro v h ⟨g,L⟩;replace S:=S.call g;clear g
         obtain⟨w,⟨c,o,x1,x2⟩,sw,_⟩:=L.row (i:=i') (by omega)
         have hlw:=hW i' (by omega)
         obtain⟨c',o',y1,y2⟩:=sw.ix (kd:=.i64) (cZ .i64) (i:=v') (by omega)
         have gd:(W i').getD v' 0=(W i')[v']:=by simp [xu,show v'<(W i').length by omega]
         simp only [BS,LB,ab,Nat.reduceLT,Nat.reduceEqDiff,Tryz.FFtb362,x1,x2,y1,y2,encI,xO,gd]
         exact S.gr
theorem ux{h0:Hp}(ok:h0.t.Sized h0.n){m N:Nat}{p:Value}{l:List Int}{R Q:Nat->List Int}(t:TabAt h0 m p N l R Q)(hW: ∀i,i<l.length->(R i).length=N){i v:Int}:aZ xt 25 [p,.int .i64 i,.int .i64 v] h0 (.int .i64 (ep N l.length R i v)):=by
 have S:=Si ok
 refine ac (n:=13) (rs:=[.tmp 6]) rfl Tryz.e25 rfl rfl rfl (lbt rfl) ?_
 simp only [BS,LB,Nat.reduceLT,Nat.reduceEqDiff]
 refine au (tt S.ok t (fun h g=>tos_ok g.ok (t.gr g)) hW) ?_;intro h g;replace S:=S.call g;clear g
 simp only [BS,LB,ab,Nat.reduceLT,Nat.reduceEqDiff]
 exact S.gr
theorem qf{h0:Hp}(ok:h0.t.Sized h0.n){m N:Nat}{p:Value}{l:List Int}{R Q:Nat->List Int}(t:TabAt h0 m p N l R Q)(hW: ∀i,i<l.length->(Q i).length=N){i v:Int}:aZ xt 105 [p,.int .i64 i,.int .i64 v] h0 (.int .i64 (ep N l.length Q i v)):=by
 have S:=Si ok
 refine ac (n:=13) (rs:=[.tmp 6]) rfl Tryz.e105 rfl rfl rfl (lbt rfl) ?_
 simp only [BS,LB,Nat.reduceLT,Nat.reduceEqDiff]
 refine au (tt S.ok t (fun h g=>froms_ok g.ok (t.gr g)) hW) ?_;intro h g;replace S:=S.call g;clear g
 simp only [BS,LB,ab,Nat.reduceLT,Nat.reduceEqDiff]
 exact S.gr
open Tryz in
def Tryz.FFbw150:=aj a1<|aj s1<|aj z1<|aj n1<|aj u2<|aj a2<|aj s2<|aj z2<|aj i2<|aj u3<|aj a3<|aj s3<|aj z3<|aj i3<|aj u4<|aj a4<|aj s4<|aj z4<|aj n4<|aj u38<|aj a38<|aj s38<|aj z38<|aj q38<|aj i38<|aj n38<|aj u40<|aj a40<|aj s40<|aj z40<|aj q40<|aj n40<|aj a70<|aj s70<|aj z70<|aj n70<|aj u71<|aj a71<|aj s71<|aj z71<|aj q71<|aj n71<|aj a96<|aj s96<|aj z96<|aj i96<|aj n96<|aj p96<|aj ff96<|aj d96<|aj a172<|aj s172<|aj z172<|n172
open Tryz in
def Tryz.FFbw119:=aj a1<|aj s1<|aj z1<|aj n1<|aj u2<|aj a2<|aj s2<|aj z2<|aj i2<|aj u3<|aj a3<|aj s3<|aj z3<|aj i3<|aj u4<|aj a4<|aj s4<|aj z4<|aj n4<|aj u5<|aj a5<|aj s5<|aj z5<|aj i5<|aj u6<|aj a6<|aj s6<|aj z6<|aj i6<|aj u38<|aj a38<|aj s38<|aj z38<|aj q38<|aj i38<|aj n38<|aj u40<|aj a40<|aj s40<|aj z40<|aj q40<|aj n40<|aj u71<|aj a71<|aj s71<|aj z71<|aj q71<|aj n71<|aj a96<|aj s96<|aj z96<|aj i96<|aj n96<|aj p96<|aj ff96<|d96
theorem fQ{h0:Hp}(ok:h0.t.Sized h0.n){m N:Nat}{p:Value}{l:List Int}{R Q:Nat->List Int}(t:TabAt h0 m p N l R Q){v:Int}:aZ xt 98 [p,.int .i64 v] h0 (.bool (decide (0<=v/\v<N))):=by
 have S:=Si ok
 refine ac (n:=13) (rs:=[.tmp 4]) rfl Tryz.e98 rfl rfl rfl (lbt rfl) ?_
 by_cases c:0<=v
 . simp only [BS,LB,Nat.reduceLT,Nat.reduceEqDiff,c]
   refine au (mz S.ok (t.gr S.gr)) ?_;intro h g;replace S:=S.call g;clear g
   simp only [BS,LB,ab,Nat.reduceLT,Nat.reduceEqDiff]
   exact S.gr
 . simp only [BS,LB,ab,Nat.reduceLT,Nat.reduceEqDiff,c]
   exact⟨by simp,S.gr⟩
theorem wayTo_ok{h0:Hp}(ok:h0.t.Sized h0.n){m N:Nat}{p:Value}{l:List Int}{R Q:Nat->List Int}(t:TabAt h0 m p N l R Q)(hW: ∀i,i<l.length->(R i).length=N){i v w:Int}:
 aZ xt 103 [.func (.func 25) #[p] #[],.func (.func 104) #[] #[],.int .i64 i,.int .i64 v,.int .i64 w] h0 (.int .i64 (jS (ep N l.length R i v) (ep N l.length R i w))):=by
 have S:=Si ok
 refine ac (n:=21) (rs:=[.tmp 10]) rfl Tryz.e103 rfl rfl rfl (lbt rfl) ?_
 simp only [BS,LB,Nat.reduceLT,Nat.reduceEqDiff]
 refine au (ux S.ok (t.gr S.gr) hW) ?_;intro h g;replace S:=S.call g;clear g
 simp only [BS,LB,Nat.reduceLT,Nat.reduceEqDiff]
 refine au (ux S.ok (t.gr S.gr) hW) ?_;intro h g;replace S:=S.call g;clear g
 simp only [BS,LB,Nat.reduceLT,Nat.reduceEqDiff]
 refine au (low_ok S.ok) ?_;intro h g;replace S:=S.call g;clear g
 simp only [BS,LB,ab,Nat.reduceLT,Nat.reduceEqDiff]
 exact S.gr
theorem wayFr_ok{h0:Hp}(ok:h0.t.Sized h0.n){m N:Nat}{p:Value}{l:List Int}{R Q:Nat->List Int}(t:TabAt h0 m p N l R Q)(hW: ∀i,i<l.length->(Q i).length=N){i v w:Int}:
 aZ xt 103 [.func (.func 105) #[p] #[],.func (.func 106) #[] #[],.int .i64 i,.int .i64 v,.int .i64 w] h0 (.int .i64 (jS (ep N l.length Q i w) (ep N l.length Q i v))):=by
 have S:=Si ok
 refine ac (n:=21) (rs:=[.tmp 10]) rfl Tryz.e103 rfl rfl rfl (lbt rfl) ?_
 simp only [BS,LB,Nat.reduceLT,Nat.reduceEqDiff]
 refine au (qf S.ok (t.gr S.gr) hW) ?_;intro h g;replace S:=S.call g;clear g
 simp only [BS,LB,Nat.reduceLT,Nat.reduceEqDiff]
 refine au (qf S.ok (t.gr S.gr) hW) ?_;intro h g;replace S:=S.call g;clear g
 simp only [BS,LB,Nat.reduceLT,Nat.reduceEqDiff]
 refine au (lift_ok S.ok) ?_;intro h g;replace S:=S.call g;clear g
 simp only [BS,LB,ab,Nat.reduceLT,Nat.reduceEqDiff]
 exact S.gr
def dY(N n:Nat)(R Q:Nat->List Int)(i v w:Int):Int:=if(0<=v/\v<N)/\(0<=w/\w<N)/\0<=i/\i<n then max (jS (ep N n R i v) (ep N n R i w)) (jS (ep N n Q i w) (ep N n Q i v))else 0
theorem rD{h0:Hp}(ok:h0.t.Sized h0.n){m N:Nat}{p:Value}{l:List Int}{R Q:Nat->List Int}(t:TabAt h0 m p N l R Q)(hR: ∀i,i<l.length->(R i).length=N)(hQ: ∀i,i<l.length->(Q i).length=N)(hl:l.length<1000){i v w:Int}:
 aZ xt 50 [p,.int .i64 i,.int .i64 v,.int .i64 w] h0 (.int .i64 (dY N l.length R Q i v w)):=by
 have S:=Si ok
 by_cases c1:0<=v/\v<N
 . by_cases c2:0<=w/\w<N
   . by_cases c3:i<0
     . rw [show dY N l.length R Q i v w=0 from if_neg (by omega)]
       refine ac (n:=43) (rs:=[.tmp 8]) rfl yq rfl rfl rfl (lbt rfl) ?_
       simp only [BS,LB,Nat.reduceLT,Nat.reduceEqDiff]
       refine au (fQ S.ok (t.gr S.gr)) ?_;intro h g;replace S:=S.call g;clear g
       simp only [BS,LB,Nat.reduceLT,Nat.reduceEqDiff,c1]
       refine au (fQ S.ok (t.gr S.gr)) ?_;intro h g;replace S:=S.call g;clear g
       simp only [BS,LB,ab,Nat.reduceLT,Nat.reduceEqDiff,c2,c3]
       exact S.gr
     . by_cases c4:(l.length:Int)<=i
       . rw [show dY N l.length R Q i v w=0 from if_neg (by omega)]
         refine ac (n:=43) (rs:=[.tmp 8]) rfl yq rfl rfl rfl (lbt rfl) ?_
         simp only [BS,LB,Nat.reduceLT,Nat.reduceEqDiff]
         refine au (fQ S.ok (t.gr S.gr)) ?_;intro h g;replace S:=S.call g;clear g
         simp only [BS,LB,Nat.reduceLT,Nat.reduceEqDiff,c1]
         refine au (fQ S.ok (t.gr S.gr)) ?_;intro h g;replace S:=S.call g;clear g
         simp only [BS,LB,Nat.reduceLT,Nat.reduceEqDiff,c2,c3]
         refine step_ret (j7 S.ok (t.gr S.gr) hl) ?_;intro v h ⟨g,slM,_⟩;replace S:=S.call g;clear g
         simp only [BS,LB,ab,Nat.reduceLT,Nat.reduceEqDiff,Tryz.FFbw150,c4,slM.lenq]
         exact S.gr
       . rw [show dY N l.length R Q i v w=max (jS (ep N l.length R i v) (ep N l.length R i w)) (jS (ep N l.length Q i w) (ep N l.length Q i v))from if_pos ⟨c1,c2,by omega,by omega⟩]
         refine ac (n:=43) (rs:=[.tmp 8]) rfl yq rfl rfl rfl (lbt rfl) ?_
         simp only [BS,LB,Nat.reduceLT,Nat.reduceEqDiff]
         refine au (fQ S.ok (t.gr S.gr)) ?_;intro h g;replace S:=S.call g;clear g
         simp only [BS,LB,Nat.reduceLT,Nat.reduceEqDiff,c1]
         refine au (fQ S.ok (t.gr S.gr)) ?_;intro h g;replace S:=S.call g;clear g
         simp only [BS,LB,Nat.reduceLT,Nat.reduceEqDiff,c2,c3]
         refine step_ret (j7 S.ok (t.gr S.gr) hl) ?_;intro v h ⟨g,slM,_⟩;replace S:=S.call g;clear g
         simp only [BS,LB,Nat.reduceLT,Nat.reduceEqDiff,Tryz.FFbw150,c4,slM.lenq]
         refine au (wayTo_ok S.ok (t.gr S.gr) hR) ?_;intro h g;replace S:=S.call g;clear g
         simp only [BS,LB,Nat.reduceLT,Nat.reduceEqDiff]
         refine au (wayFr_ok S.ok (t.gr S.gr) hQ) ?_;intro h g;replace S:=S.call g;clear g
         simp only [BS,LB,ab,Nat.reduceLT,Nat.reduceEqDiff]
         exact S.gr
   . rw [show dY N l.length R Q i v w=0 from if_neg (fun h=>c2 h.2.1)]
     refine ac (n:=43) (rs:=[.tmp 8]) rfl yq rfl rfl rfl (lbt rfl) ?_
     simp only [BS,LB,Nat.reduceLT,Nat.reduceEqDiff]
     refine au (fQ S.ok (t.gr S.gr)) ?_;intro h g;replace S:=S.call g;clear g
     simp only [BS,LB,Nat.reduceLT,Nat.reduceEqDiff,c1]
     refine au (fQ S.ok (t.gr S.gr)) ?_;intro h g;replace S:=S.call g;clear g
     simp only [BS,LB,ab,Nat.reduceLT,Nat.reduceEqDiff,c2]
     exact S.gr
 . rw [show dY N l.length R Q i v w=0 from if_neg (fun h=>c1 h.1)]
   refine ac (n:=43) (rs:=[.tmp 8]) rfl yq rfl rfl rfl (lbt rfl) ?_
   simp only [BS,LB,Nat.reduceLT,Nat.reduceEqDiff]
   refine au (fQ S.ok (t.gr S.gr)) ?_;intro h g;replace S:=S.call g;clear g
   simp only [BS,LB,ab,Nat.reduceLT,Nat.reduceEqDiff,c1]
   exact S.gr
def d9(N n:Nat)(R Q:Nat->List Int)(v w:Int)(l:List Int):Int:=l.foldl (fun b i=>max b (dY N n R Q i v w)) 0
theorem bBest_ok{h0:Hp}(ok:h0.t.Sized h0.n){m N:Nat}{p:Value}{l:List Int}{R Q:Nat->List Int}(t:TabAt h0 m p N l R Q)(hR: ∀i,i<l.length->(R i).length=N)(hQ: ∀i,i<l.length->(Q i).length=N)(hl:l.length<1000){va:Value}{act:List Int}(ha:ay h0 1 (encI .i64) va act)(hal:act.length<1000){v w:Int}:
 aZ xt 19 [p,va,.int .i64 v,.int .i64 w] h0 (.int .i64 (d9 N l.length R Q v w act)):=by
 have S:=Si ok
 refine ac (n:=26) (rs:=[.tmp 8]) rfl Tryz.e19 rfl rfl rfl (lbt rfl) ?_
 simp only [BS,LB,Nat.reduceLT,Nat.reduceEqDiff,Tryz.FFbw119,ha.lenq]
 refine aT (fun(k:Nat) ρ h=>k<=act.length/\Gr h0 h/\ρ 0=p/\ρ 2=.int .i64 v/\ρ 3=.int .i64 w/\ρ 8=.int .i64 (d9 N l.length R Q v w (act.take k))/\ρ 11=va/\ρ 12=.int .i64 act.length/\ρ 13=.int .i64 k) (fun k=>act.length-k) ?_ 0 _ _ ?_
 . clear S
   intro k ih ρ h ⟨hk,g0,r0,r2,r3,r8,r11,r12,r13⟩
   have wk:ar .i64 ((k:Int)+1)=((k+1:Nat):Int):=by rw [wrap64]<;>omega
   by_cases hlt:k<act.length
   . obtain⟨c,o,hidx,hld⟩:=(ha.gr g0).ix (kd:=.i64) (cZ .i64) hlt
     simp only [BS,LB,Nat.reduceLT,Nat.reduceEqDiff,Tryz.FFbw119,r0,r2,r3,r8,r11,r12,r13,aH,hlt,hidx,hld,encI]
     refine au (rD g0.ok (t.gr g0) hR hQ hl) ?_
     intro h g
     simp only [BS,LB,Nat.reduceLT,Nat.reduceEqDiff,r13,wk]
     refine ih (k+1) _ _ (by omega) ⟨by omega,g0.trans g,by simp [aa,r0],by simp [aa,r2],by simp [aa,r3],?_,by simp [aa,r11],by simp [aa,r12],by simp [aa]⟩
     rw [xG hlt]
     unfold d9
     rw [List.foldl_append]
     simp [aa]
   . simp only [BS,LB,ab,Nat.reduceLT,Nat.reduceEqDiff,r8,r12,r13,aH,hlt]
     rw [List.take_of_length_le (by omega)]
     exact⟨rfl,g0⟩
 . exact⟨xB _,S.gr,by simp [aa,aQ],by simp [aa,aQ,bO],by simp [aa,aQ,bO],by simp [aa,d9],by simp [aa],by simp [aa],by simp [aa]⟩
end Go.Ab
end
section
namespace Go.Ab
def SlW(h:Hp)(kd:IntKind)(v:Value)(xs:List Int):Prop:=(v=.slice none 0 0/\xs=[])\/ ∃b o c,v=.slice (some ⟨b,o,none⟩) xs.length c/\xs.length<=c/\h.load b o (xs.length*1)=some (xs.flatMap (encI kd))
theorem SlW.sl{h:Hp}{kd:IntKind}{v:Value}{xs:List Int}(s:SlW h kd v xs):ay h 1 (encI kd) v xs:=s.imp (fun h=>h) (fun⟨b,o,c,h1,h2,h3⟩=>⟨b,o,none,c,h1,h2,h3⟩)
theorem SlW.low{E:Env}{h:Hp}{kd kd':IntKind}{t e:TypeId}{v:Value}{xs:List Int}(hu:E.und t=some (.slice e))(hs:E.sz e=some 1)(s:SlW h kd v xs){n:Nat}(hn:n<=xs.length):
 ∃v',dZ E t v none (some (.int kd' (n:Int))) none=some v'/\ay h 1 (encI kd) v' (xs.take n)/\ ∀c,av v' c->av v c:=by
 have nat: ∀n:Nat,fu (n:Int)=some n:=fun n=>rfl
 rcases s with⟨rfl,rfl⟩|⟨b,o,c,rfl,h2,h3⟩
 . have:n=0:=by simpa using hn
   subst this
   refine⟨.slice none 0 0,?_,.inl ⟨rfl,rfl⟩,fun c hc=>hc⟩
   simp only [dZ,hu,dU,dN,nat,hs]
   rfl
 . refine⟨.slice (some ⟨b,o,none⟩) n c,?_,.inr ⟨b,o,none,c,?_,?_,?_⟩,fun c hc=>hc⟩
   . simp only [dZ,hu,dU,dN,nat,yp (xz hn h2),cond_true,hs,Option.isSome_none,cond_false,Nat.sub_zero,dQ,xF,Nat.add_zero]
     by_cases hc:c=0
     . subst hc;rfl
     . rw [show Nat.beq c 0=false by cases c with|zero=>exact absurd rfl hc|succ c=>rfl];rfl
   . rw [xK,yj hn]
   . rw [xK,yj hn];exact xz hn h2
   . rw [xK,yj hn]
     have:=jh h3 (i:=0) (m:=n*1) (by omega)
     rw [Nat.add_zero,xU]at this
     rw [this]
     congr 1
     refine List.ext_getElem? fun i=>?_
     have e4: ∀l:List Int,l.flatMap (encI kd)=l.map fun x=>.int kd x:=fun l=>by
      rw [xV,yw,xV];rfl
     rw [e4,e4,xC,List.map_take]
end Go.Ab

end
section
namespace Go.Ab
def swJ(l:List Nat)(j:Nat):List Nat:=(l.set j (l.getD (j-1) 0)).set (j-1) (l.getD j 0)
def bub(key:Nat->Int):Nat->List Nat->List Nat
 |0,l=>l
 |j+1,l=>if key (l.getD j 0)<key (l.getD (j+1) 0)then bub key j (swJ l (j+1))else l
def fZ(key:Nat->Int)(k:Nat)(l:List Nat):List Nat:=(xx k).foldl (fun l i=>bub key (i+1) l) l
theorem mm(key:Nat->Int)(k:Nat)(l:List Nat):fZ key (k+1) l=bub key (k+1) (fZ key k l):=by
 unfold fZ;rw [List.range_succ,List.foldl_append];rfl
theorem swJ_len(l:List Nat)(j:Nat):(swJ l j).length=l.length:=by simp [swJ]
theorem ub{l:List Nat}{j:Nat}(h:j<l.length):(swJ l j).Perm l:=by
 have:((l.set j l[j-1]).set (j-1) l[j]).Perm l:=List.set_set_perm h (by omega)
 unfold swJ
 rwa [show l.getD (j-1) 0=l[j-1] by simp [xu,show j-1<l.length by omega],show l.getD j 0=l[j] by simp [xu,h]]
theorem tN{key:Nat->Int}: ∀(j:Nat) {l:List Nat},j<l.length->(bub key j l).Perm l
 |0,l,_=>.refl _
 | j+1,l,h=>by
   unfold bub
   split
   . exact(tN j (by rw [swJ_len];omega)).trans (ub h)
   . exact .refl _
theorem mq{key:Nat->Int}{l:List Nat}: ∀(k:Nat),k<l.length\/k=0->(fZ key k l).Perm l
 |0,_=>.refl _
 | k+1,h=>by
   have ih:=mq (key:=key) (l:=l) k (by omega)
   rw [mm]
   exact(tN (k+1) (by rw [ih.length_eq];omega)).trans ih
end Go.Ab

end
section
namespace Go.Ab
open Go.Proofs
set_option maxRecDepth 10000
open Tryz in
def Tryz.FFa1165:=aj a1<|aj s1<|aj z1<|aj n1<|aj u2<|aj a2<|aj s2<|aj z2<|aj i2<|aj u3<|aj a3<|aj s3<|aj z3<|aj i3<|aj u4<|aj a4<|aj s4<|aj z4<|aj n4<|aj u5<|aj a5<|aj s5<|aj z5<|aj i5<|aj u6<|aj a6<|aj s6<|aj z6<|aj i6<|aj u40<|aj a40<|aj s40<|aj z40<|aj q40<|aj n40<|aj a111<|aj s111<|aj z111<|n111
open Tryz in
def Tryz.FFa1101:=aj u3<|aj a3<|aj s3<|aj z3<|aj i3<|aj u40<|aj a40<|aj s40<|aj z40<|aj q40<|aj n40<|aj a111<|aj s111<|aj z111<|n111
open Tryz in
def Tryz.FFa138:=aj a1<|aj s1<|aj z1<|aj n1<|aj u2<|aj a2<|aj s2<|aj z2<|aj i2<|aj u3<|aj a3<|aj s3<|aj z3<|aj i3<|aj u4<|aj a4<|aj s4<|aj z4<|aj n4<|aj u40<|aj a40<|aj s40<|aj z40<|aj q40<|n40
open Tryz in
def Tryz.FFa147:=aj a1<|aj s1<|aj z1<|aj n1<|aj u2<|aj a2<|aj s2<|aj z2<|aj i2<|aj u3<|aj a3<|aj s3<|aj z3<|aj i3<|aj u40<|aj a40<|aj s40<|aj z40<|aj q40<|aj n40<|aj a111<|aj s111<|aj z111<|n111
def eX(l:List Nat):List Value:=l.map fun(x:Nat)=>.int .i64 x
theorem rJ(l:List Nat):l.flatMap bI=eX l:=by
 unfold eX;rw [xV,yw,xV];rfl
theorem nv(l:List Nat):(eX l).length=l.length:=by simp [eX]
theorem natM_at{l:List Nat}{i:Nat}(h:i<l.length):(eX l)[i]? =some (.int .i64 (l.getD i 0:Nat)):=by
 unfold eX;rw [yd,xw h];simp [xu,h]
theorem tC(l:List Nat)(i x:Nat):(eX l).set i (.int .i64 (x:Nat))=eX (l.set i x):=by unfold eX;rw [List.map_set]
theorem uF{a b:Int}:jm a b<0↔a<b:=by
 unfold jm
 split
 . omega
 . split<;>omega
def CmpF(E:Env)(hq:Hp)(g:FuncId)(post:List Value)(N:Nat)(key:Nat->Int):Prop:= ∀h,Gr hq h-> ∀i j,i<N->j<N->aZ E g ([.int .i64 (i:Nat),.int .i64 (j:Nat)]++post) h (.int .i64 (jm (key j) (key i)))
theorem wD {hq h0:Hp} (gq:Gr hq h0) {b N:Nat} {xs:List Nat} {g:FuncId} {post:Array Value} {key:Nat->Int} (row:Row h0 b (eX xs) 1) (hb:hq.n<=b) (hn:xs.length<=20) (hx: ∀x∈xs,x<N) (hc:CmpF xt hq g post.toList N key):
 Ret xt 165 [.slice (some ⟨b,0,some 1⟩) xs.length xs.length,.int .i64 0,.int .i64 (xs.length:Nat),.func (.func g) #[] post] h0 fun _ h'=>Mo (· =b) h0 h'/\Row h' b (eX (fZ key (xs.length-1) xs)) 1:=by
 have ok:=gq.ok
 have S:=St.init1 ok (o:=.row _ 1) row
 have w1:ar .i64 (0+1)=((0+1:Nat):Int):=rfl
 refine ac (n:=53) (rs:=[]) rfl Tryz.e165 rfl rfl rfl (lbt rfl) ?_
 simp only [BS,LB,Nat.reduceLT,Nat.reduceEqDiff,Int.reduceAdd]
 refine aT (fun(i:Nat) ρ h=>i<=xs.length-1/\St (· =b) h0 h [(b,.row (eX (fZ key i xs)) 1)] []/\ρ 0=.slice (some ⟨b,0,some 1⟩) xs.length xs.length/\ρ 1=.int .i64 0/\ρ 2=.int .i64 (xs.length:Nat)/\ρ 3=.func (.func g) #[] post/\ρ 8=.int .i64 ((i+1:Nat):Int)) (fun i=>xs.length-i) ?_ 0 _ _ ?_
 . clear S
   intro i ih ρ h ⟨hi,S,r0,r1,r2,r3,r8⟩
   by_cases hlt:i+1<xs.length
   . simp only [BS,LB,Nat.reduceLT,Nat.reduceEqDiff,r2,r8,aH,hlt]
     have pmI:=mq (key:=key) (l:=xs) i (.inl (by omega))
     refine aT (fun(j:Nat) ρ h=>j<=i+1/\ ∃l,l.Perm xs/\bub key j l=bub key (i+1) (fZ key i xs)/\St (· =b) h0 h [(b,.row (eX l) 1)] []/\ρ 0=.slice (some ⟨b,0,some 1⟩) xs.length xs.length/\ρ 1=.int .i64 0/\ρ 2=.int .i64 (xs.length:Nat)/\ρ 3=.func (.func g) #[] post/\ρ 8=.int .i64 ((i+1:Nat):Int)/\ρ 9=.int .i64 (j:Nat)) (fun j=>j) ?_ (i+1) _ _ ?_
     . clear S r0 r1 r2 r3 r8
       intro j ihj ρ h ⟨hj,l,pm,hbub,S,r0,r1,r2,r3,r8,r9⟩
       have ll:=pm.length_eq
       have wi:ar .i64 (((i+1:Nat):Int)+1)=((i+1+1:Nat):Int):=by rw [wrap64]<;>omega
       by_cases hj0:0<j
       . obtain⟨k,rfl⟩: ∃k,j=k+1:=⟨j-1,by omega⟩
         have cj:(0:Int)<((k+1:Nat):Int):=by omega
         have wk:ar .i64 (((k+1:Nat):Int)-1)=(k:Int):=by rw [wrap64]<;>omega
         have k1:k+1<xs.length:=by omega
         have k0:k<xs.length:=by omega
         have q1:=(S.row (b:=b) m0).load1 (natM_at (i:=k+1) (by omega))
         have q0:=(S.row (b:=b) m0).load1 (natM_at (i:=k) (by omega))
         have d1:l.getD (k+1) 0<N:=by
          refine hx _ (pm.mem_iff.1 ?_)
          rw [xu,xw (by omega)];exact xP _
         have d0:l.getD k 0<N:=by
          refine hx _ (pm.mem_iff.1 ?_)
          rw [xu,xw (by omega)];exact xP _
         simp only [BS]
         refine aw (aC rfl) (q:=0) (ps:=[]) (by kernel_rfl) ?_
         simp only [BS,LB,cls,Nat.reduceLT,Nat.reduceEqDiff,Nat.reduceAdd,Nat.reducePow,Nat.reduceDiv,Nat.reduceMod,Nat.reduceLeDiff,Tryz.FFa1165,r0,r1,r3,r9,cj,wk,k1,k0,q1,q0]
         refine cN (hc _ (((gq.fr (M:=NoM)).trans S.fr (fun c e=>.inr (by omega))).gr) _ _ d1 d0) ?_
         intro h g1
         replace S:=S.call g1
         by_cases hk:key (l.getD k 0)<key (l.getD (k+1) 0)
         . have ck:jm (key (l.getD k 0)) (key (l.getD (k+1) 0))<0:=uF.2 hk
           replace q1:=g1.load q1
           replace q0:=g1.load q0
           simp only [BS,LB,cls,Nat.reduceLT,Nat.reduceEqDiff,Nat.reduceAdd,Nat.reducePow,Nat.reduceDiv,Nat.reduceMod,Nat.reduceLeDiff,ck]
           refine aw (aC rfl) (q:=0) (ps:=[]) (by kernel_rfl) ?_
           simp only [BS,LB,cls,Nat.reduceLT,Nat.reduceEqDiff,Nat.reduceAdd,Nat.reducePow,Nat.reduceDiv,Nat.reduceMod,Nat.reduceLeDiff,Tryz.FFa1165,r0,r9,wk,k1,k0,q1,q0]
           refine df (aA S (i:=0) rfl yf bD (by rw [nv];omega) ono) ?_
           clear S;rintro h3 ⟨S,mo1⟩
           simp only [LC]at S
           simp only [BS,LB,cls,Nat.reduceLT,Nat.reduceEqDiff,Nat.reduceAdd,Nat.reducePow,Nat.reduceDiv,Nat.reduceMod,Nat.reduceLeDiff,Tryz.FFa1165,k0]
           refine df (aA S (i:=0) rfl yf bD (by rw [List.length_set,nv];omega) ono) ?_
           clear S;rintro h4 ⟨S,mo2⟩
           simp only [LC]at S
           rw [tC,tC]at S
           simp only [BS,LB,Nat.reduceLT,Nat.reduceEqDiff,Nat.reduceAdd,r9,wk]
           have e:bub key (k+1) l=bub key k (swJ l (k+1)):=by
            show(if _ then _ else _)=_
            rw [if_pos hk]
           exact ihj k _ _ (by omega) ⟨by omega,swJ l (k+1),(ub (by omega)).trans pm,by rw [<-e];exact hbub,S,by simp [aa,r0],by simp [aa,r1],by simp [aa,r2],by simp [aa,r3],by simp [aa,r8],by simp [aa]⟩
         . have ck: ¬jm (key (l.getD k 0)) (key (l.getD (k+1) 0))<0:=fun h=>hk (uF.1 h)
           have e:bub key (k+1) l=l:=by
            show(if _ then _ else _)=_
            rw [if_neg hk]
           rw [e]at hbub
           simp only [BS,LB,cls,Nat.reduceLT,Nat.reduceEqDiff,Nat.reduceAdd,Nat.reducePow,Nat.reduceDiv,Nat.reduceMod,Nat.reduceLeDiff,r8,ck,wi]
           exact ih (i+1) _ _ (by omega) ⟨by omega,by rw [mm,<-hbub];exact S,by simp [aa,r0],by simp [aa,r1],by simp [aa,r2],by simp [aa,r3],by simp [aa]⟩
       . have ej:j=0:=by omega
         subst ej
         have hb0:l=bub key (i+1) (fZ key i xs):=hbub
         have cj: ¬(0:Int)<((0:Nat):Int):=by omega
         simp only [BS]
         refine aw (aC rfl) (q:=0) (ps:=[]) (by kernel_rfl) ?_
         simp only [BS,LB,cls,Nat.reduceLT,Nat.reduceEqDiff,Nat.reduceAdd,Nat.reducePow,Nat.reduceDiv,Nat.reduceMod,Nat.reduceLeDiff,Int.reduceLT,xN,r1,r8,r9,wi]
         exact ih (i+1) _ _ (by omega) ⟨by omega,by rw [mm,<-hb0];exact S,by simp [aa,r0],by simp [aa,r1],by simp [aa,r2],by simp [aa,r3],by simp [aa]⟩
     . exact⟨xX _,_,pmI,rfl,S,by simp [aa,r0],by simp [aa,r1],by simp [aa,r2],by simp [aa,r3],by simp [aa,r8],by simp [aa]⟩
   . simp only [BS,LB,Nat.reduceLT,Nat.reduceEqDiff,r2,r8,aH,hlt]
     have ei:i=xs.length-1:=by omega
     subst ei
     exact⟨S.fr,S.row m0⟩
 . exact⟨xB _,S,by simp [aa,cg],by simp [aa,cg],by simp [aa,cg],by simp [aa,cg],by simp [aa];rfl⟩
theorem stable_ok{hq h0:Hp}(gq:Gr hq h0){b N:Nat}{xs:List Nat}{g:FuncId}{post:Array Value}{key:Nat->Int}(row:Row h0 b (eX xs) 1)(hb:hq.n<=b)(hn:xs.length<20)(hx: ∀x∈xs,x<N)(hc:CmpF xt hq g post.toList N key):
 Ret xt 144 [.slice (some ⟨b,0,some 1⟩) xs.length xs.length,.int .i64 (xs.length:Nat),.func (.func g) #[] post] h0 fun _ h'=>Mo (· =b) h0 h'/\Row h' b (eX (fZ key (xs.length-1) xs)) 1:=by
 have ok:=gq.ok
 have c1: ¬(20:Int)<=(xs.length:Int):=by omega
 have c2: ¬(20:Int)<(xs.length:Int):=by omega
 have S:=Si ok
 refine ac (n:=63) (rs:=[]) rfl Tryz.e144 rfl rfl rfl (lbt rfl) ?_
 simp only [BS,LB,Nat.reduceLT,Nat.reduceEqDiff]
 rw [bV]
 simp only [BS,LB,Nat.reduceLT,Nat.reduceEqDiff,c1]
 refine step_ret (wD gq row hb (by omega) hx hc) ?_
 rintro r h ⟨f,R⟩
 simp only [BS]
 rw [bV]
 simp only [BS,LB,Nat.reduceLT,Nat.reduceEqDiff,c2]
 exact⟨f,R⟩
theorem sS{hq h0:Hp}(gq:Gr hq h0){b N:Nat}{xs:List Nat}{g:FuncId}{post:Array Value}{key:Nat->Int}(row:Row h0 b (eX xs) 1)(hb:hq.n<=b)(hn:xs.length<20)(hx: ∀x∈xs,x<N)(hc:CmpF xt hq g post.toList N key):
 Ret xt 101 [.slice (some ⟨b,0,some 1⟩) xs.length xs.length,.func (.func g) #[] post] h0 fun _ h'=>Mo (· =b) h0 h'/\Row h' b (eX (fZ key (xs.length-1) xs)) 1:=by
 refine ac (n:=9) (rs:=[]) rfl Tryz.e101 rfl rfl rfl (lbt rfl) ?_
 simp only [BS,LB,Nat.reduceLT,Nat.reduceEqDiff,Tryz.FFa1101]
 refine step_ret (stable_ok gq row hb hn hx hc) ?_
 rintro r h q
 simp only [BS]
 exact q
theorem ue{h0:Hp}(ok:h0.t.Sized h0.n){v:Value}{xs:List Nat}(hs:ay h0 1 bI v xs)(hl:xs.length<1000000)(hx:xs≠ []):Ret xt 38 [v] h0 fun r h'=>Gr h0 h'/\ ∃b,r=.slice (some ⟨b,0,some 1⟩) xs.length xs.length/\Row h' b (eX xs) 1/\h0.n<=b:=by
 have S:=Si ok
 rcases hs with⟨_,rfl⟩|⟨b,o,s,c,rfl,h2,h3⟩
 . exact absurd rfl hx
 . refine ac (n:=8) (rs:=[.tmp 2]) rfl Tryz.e38 rfl rfl rfl (lbt rfl) ?_
   simp only [BS,LB,Nat.reduceLT,Nat.reduceEqDiff,Tryz.FFa138]
   refine ag (bH (by exact xL) (by exact xQ) (by decide) (by rfl)) S ?_;clear S;intro h bb S n_bb;simp only [LC,aR,bj,ae,Nat.reduceMul,Nat.reduceAdd,xF,xH,xC,xM]at S
   simp only [BS,LB,Nat.reduceLT,Nat.reduceEqDiff]
   have k0:=S.fr.n
   refine eo (S.cloneW (enc:=bI) (ys:=xs) xL xQ (by decide) yr (.inr ⟨b,o,s,c,rfl,h2,S.old h3 (fun h=>h)⟩) dG (by decide) (by omega) (S.row m0)) ?_
   rintro h' v ⟨S',g,sl,hc,w⟩
   obtain⟨b',rfl,row⟩:=w hx
   simp only [BS,LB,ab,Nat.reduceLT,Nat.reduceEqDiff]
   rw [rJ]at row
   exact⟨S'.gr,b',rfl,row,(hc b' rfl).elim (fun e=>by omega) (fun e=>xz k0 e)⟩
theorem first_ok{hq h0:Hp}(gq:Gr hq h0){N:Nat}{v:Value}{xs:List Nat}{g:FuncId}{post:Array Value}{key:Nat->Int}(hs:ay h0 1 bI v xs)(hne:xs≠ [])(hn:xs.length<20)(hx: ∀x∈xs,x<N)(hc:CmpF xt hq g post.toList N key){m:Nat}(hm:1<=m):
 Ret xt 47 [v,.int .i64 (m:Nat),.func (.func g) #[] post] h0 fun r h'=>Gr h0 h'/\ay h' 1 bI r ((fZ key (xs.length-1) xs).take (min m xs.length))/\ ∀c,av r c->h0.n<=c:=by
 have ok:=gq.ok
 have mn:min (m:Int) (xs.length:Int)=((min m xs.length:Nat):Int):=by omega
 have pm:=mq (key:=key) (l:=xs) (xs.length-1) (by cases xs with|nil=>exact absurd rfl hne|cons a l=>simp)
 have S:=Si ok
 refine ac (n:=18) (rs:=[.tmp 6]) rfl Tryz.e47 rfl rfl rfl (lbt rfl) ?_
 simp only [BS,LB,Nat.reduceLT,Nat.reduceEqDiff]
 refine step_ret (ue S.ok hs (by omega) hne) ?_
 rintro r h ⟨g1,b,rfl,row,nb⟩
 have hbq:hq.n<=b:=xz gq.n nb
 simp only [BS,LB,Nat.reduceLT,Nat.reduceEqDiff]
 refine step_ret (sS (gq.trans g1) row hbq hn hx hc) ?_
 rintro r h2 ⟨f,R⟩
 have sl:=tQ (kd:=.i64) (b:=b) (len:=xs.length) (n:=min m xs.length) xL yf (cap:=xs.length) (Nat.min_le_right _ _)
 simp only [BS,LB,ab,Nat.reduceLT,Nat.reduceEqDiff,yk,yl,Tryz.FFa147,mn,sl]
 refine⟨((g1.fr (M:=NoM)).trans f (fun c e=>.inr (by omega))).gr,?_,fun c hc=>by have hc:b=c:=hc;omega⟩
 have tl:((fZ key (xs.length-1) xs).take (min m xs.length)).length=min m xs.length:=by rw [xK,pm.length_eq];omega
 refine .inr ⟨b,0,some 1,xs.length,by rw [tl],by rw [tl];exact Nat.min_le_right _ _,?_⟩
 rw [tl,R.load (by rw [nv,pm.length_eq];omega),rJ,xU,xC]
 unfold eX
 rw [List.map_take]
open Tryz in
def Tryz.FFa248:=aj a1<|aj s1<|aj z1<|aj n1<|aj u2<|aj a2<|aj s2<|aj z2<|aj i2<|aj u3<|aj a3<|aj s3<|aj z3<|aj i3<|aj u38<|aj a38<|aj s38<|aj z38<|aj q38<|aj i38<|aj n38<|aj u40<|aj a40<|aj s40<|aj z40<|aj q40<|aj n40<|aj u71<|aj a71<|aj s71<|aj z71<|aj q71<|aj n71<|aj a96<|aj s96<|aj z96<|aj i96<|aj n96<|aj p96<|aj ff96<|d96
open Tryz in
def Tryz.FFa238:=aj a1<|aj s1<|aj z1<|aj n1<|aj u2<|aj a2<|aj s2<|aj z2<|aj i2<|aj u3<|aj a3<|aj s3<|aj z3<|aj i3<|aj u4<|aj a4<|aj s4<|aj z4<|aj n4<|aj u40<|aj a40<|aj s40<|aj z40<|aj q40<|n40
open Tryz in
def Tryz.FFa2101:=aj u3<|aj a3<|aj s3<|aj z3<|aj i3<|aj u40<|aj a40<|aj s40<|aj z40<|aj q40<|aj n40<|aj a111<|aj s111<|aj z111<|n111
open Tryz in
def Tryz.FFa247:=aj a1<|aj s1<|aj z1<|aj n1<|aj u2<|aj a2<|aj s2<|aj z2<|aj i2<|aj u3<|aj a3<|aj s3<|aj z3<|aj i3<|aj u40<|aj a40<|aj s40<|aj z40<|aj q40<|aj n40<|aj a111<|aj s111<|aj z111<|n111
open Tryz in
def Tryz.FFa218:=aj a1<|aj s1<|aj z1<|aj n1<|aj u2<|aj a2<|aj s2<|aj z2<|aj i2<|aj u3<|aj a3<|aj s3<|aj z3<|aj i3<|aj u4<|aj a4<|aj s4<|aj z4<|aj n4<|aj u5<|aj a5<|aj s5<|aj z5<|aj i5<|aj u6<|aj a6<|aj s6<|aj z6<|aj i6<|aj a7<|aj s7<|aj z7<|aj i7<|aj n7<|aj p7<|aj ff7<|aj d7<|aj u38<|aj a38<|aj s38<|aj z38<|aj q38<|aj i38<|aj n38<|aj u40<|aj a40<|aj s40<|aj z40<|aj q40<|aj n40<|aj u71<|aj a71<|aj s71<|aj z71<|aj q71<|aj n71<|aj a96<|aj s96<|aj z96<|aj i96<|aj n96<|aj p96<|aj ff96<|aj d96<|aj a111<|aj s111<|aj z111<|n111
def keyB(N n:Nat)(R Q:Nat->List Int)(s w:Int)(i:Nat):Int:=dY N n R Q i s w
def actL(N n:Nat)(R Q:Nat->List Int)(s w most:Int):List Nat:=(fZ (keyB N n R Q s w) (n-1) (xx n)).take (min (max most 1).toNat n)
theorem wY{hq:Hp}{m N:Nat}{p:Value}{l:List Int}{R Q:Nat->List Int}(t:TabAt hq m p N l R Q)(hR: ∀i,i<l.length->(R i).length=N)(hQ: ∀i,i<l.length->(Q i).length=N)(hl:l.length<1000){s w:Int}{b4 b5 b6:Nat}(l4:hq.load b4 0 1=some [p])(l5:hq.load b5 0 1=some [.int .i64 s])(l6:hq.load b6 0 1=some [.int .i64 w]):
 CmpF xt hq 48 [ptrTo b4,ptrTo b5,ptrTo b6] l.length (keyB N l.length R Q s w):=by
 intro h g i j hi hj
 have fp:Fl p:=by obtain⟨b,_,_,_,rfl,_⟩:=t.ex;exact eG
 have S:=Si g.ok
 have z4:=bK g.ok (g.load l4)
 have z5:=bK g.ok (g.load l5)
 have z6:=bK g.ok (g.load l6)
 refine ac (n:=19) (rs:=[.tmp 7]) rfl Tryz.e48 rfl rfl rfl (lbt rfl) ?_
 simp only [BS,LB]
 refine aw (aC rfl) (q:=0) (ps:=[(4,8),(4,7),(4,5)]) (by kernel_rfl) ?_
 simp only [BS,LB,cls,Nat.reduceLT,Nat.reduceEqDiff,Nat.reduceAdd,Nat.reducePow,Nat.reduceDiv,Nat.reduceMod,Nat.reduceLeDiff,Tryz.FFa248,g.load l4,g.load l5,g.load l6]
 refine cN (rD S.ok ((t.gr g).gr S.gr) hR hQ hl) ?_
 intro h1 g1
 have v4:=aM g1 z4
 have v5:=aM g1 z5
 have v6:=aM g1 z6
 replace S:=S.call g1
 simp only [BS,LB,cls,Nat.reduceLT,Nat.reduceEqDiff,Nat.reduceAdd,Nat.reducePow,Nat.reduceDiv,Nat.reduceMod,Nat.reduceLeDiff,Tryz.FFa248,g1.load (g.load l4),g1.load (g.load l5),g1.load (g.load l6)]
 refine cN (rD S.ok ((t.gr g).gr S.gr) hR hQ hl) ?_
 intro h2 g2
 replace S:=S.call g2
 simp only [BS,LB,cls,Nat.reduceLT,Nat.reduceEqDiff,Nat.reduceAdd,Nat.reducePow,Nat.reduceDiv,Nat.reduceMod,Nat.reduceLeDiff]
 refine cN (tb S.ok) ?_
 intro h3 g3
 replace S:=S.call g3
 simp only [BS,LB,cls,ab,Nat.reduceLT,Nat.reduceEqDiff,Nat.reduceAdd,Nat.reducePow,Nat.reduceDiv,Nat.reduceMod,Nat.reduceLeDiff]
 refine⟨by simp only [aX,bg,aS,bz,aV,ne_eq,not_false_eq_true,bE,bR,bC,aW,bU,cL,aP,Nat.reduceLT,Nat.reduceEqDiff,reduceIte,xy,an,cg,bQ v4,bQ v5,bQ v6],?_⟩
 exact⟨rfl,S.gr⟩
theorem insNil_ok{h0:Hp}(ok:h0.t.Sized h0.n){v:Value}:aZ xt 165 [.slice none 0 0,.int .i64 0,.int .i64 0,v] h0 (.tuple #[]):=by
 have S:=Si ok
 have w1:ar .i64 1=1:=rfl
 have c1: ¬(1:Int)<0:=by decide
 refine ac (n:=53) (rs:=[]) rfl Tryz.e165 rfl rfl rfl (lbt rfl) ?_
 simp only [BS,LB,Nat.reduceLT,Nat.reduceEqDiff,Int.reduceAdd,w1]
 rw [bV]
 simp only [BS,LB,ab,Nat.reduceLT,Nat.reduceEqDiff,c1]
 exact S.gr
theorem vz{h0:Hp}(ok:h0.t.Sized h0.n){m:Nat}{g:FuncId}{post:Array Value}:aZ xt 47 [.slice none 0 0,.int .i64 (m:Nat),.func (.func g) #[] post] h0 (.slice none 0 0):=by
 have S:=Si ok
 have cl:aZ xt 38 [.slice none 0 0] h0 (.slice none 0 0):=by
  refine ac (n:=8) (rs:=[.tmp 2]) rfl Tryz.e38 rfl rfl rfl (lbt rfl) ?_
  simp only [BS,LB,ab,Nat.reduceLT,Nat.reduceEqDiff,Tryz.FFa238]
  exact S.gr
 have mn:min (m:Int) 0=0:=by omega
 have c1: ¬(20:Int)<=0:=by decide
 have c2: ¬(20:Int)<0:=by decide
 have so: ∀{h:Hp},h.t.Sized h.n->aZ xt 101 [.slice none 0 0,.func (.func g) #[] post] h (.tuple #[]):=fun {h} okh=>by
  have S:=Si okh
  have st:aZ xt 144 [.slice none 0 0,.int .i64 0,.func (.func g) #[] post] h (.tuple #[]):=by
   refine ac (n:=63) (rs:=[]) rfl Tryz.e144 rfl rfl rfl (lbt rfl) ?_
   simp only [BS,LB,Nat.reduceLT,Nat.reduceEqDiff]
   rw [bV]
   simp only [BS,LB,Nat.reduceLT,Nat.reduceEqDiff,c1]
   refine au (insNil_ok S.ok) ?_;intro h g;replace S:=S.call g;clear g
   simp only [BS]
   rw [bV]
   simp only [BS,LB,ab,Nat.reduceLT,Nat.reduceEqDiff,c2]
   exact S.gr
  refine ac (n:=9) (rs:=[]) rfl Tryz.e101 rfl rfl rfl (lbt rfl) ?_
  simp only [BS,LB,Nat.reduceLT,Nat.reduceEqDiff,xN,Tryz.FFa2101]
  refine au st ?_;intro h' g';replace S:=S.call g'
  simp only [BS,LB,ab]
  exact S.gr
 have sl:dZ xt 40 (.slice none 0 0) none (some (.int .i64 0)) none=some (.slice none 0 0):=by
  simp only [dZ,xL,yf,dU,dN]
  rfl
 refine ac (n:=18) (rs:=[.tmp 6]) rfl Tryz.e47 rfl rfl rfl (lbt rfl) ?_
 simp only [BS,LB,Nat.reduceLT,Nat.reduceEqDiff]
 refine au cl ?_;intro h g1;replace S:=S.call g1
 simp only [BS,LB,Nat.reduceLT,Nat.reduceEqDiff]
 refine au (so S.ok) ?_;intro h g1;replace S:=S.call g1
 simp only [BS,LB,ab,Nat.reduceLT,Nat.reduceEqDiff,xN,yk,yl,Tryz.FFa247,mn,sl]
 exact S.gr
theorem qa{h0:Hp}(ok:h0.t.Sized h0.n){m N:Nat}{p:Value}{l:List Int}{R Q:Nat->List Int}(t:TabAt h0 m p N l R Q)(hR: ∀i,i<l.length->(R i).length=N)(hQ: ∀i,i<l.length->(Q i).length=N)(hl:l.length<=16){s w most:Int}:
 Ret xt 18 [p,.int .i64 s,.int .i64 w,.int .i64 most] h0 fun r h'=>Gr h0 h'/\ay h' 1 bI r (actL N l.length R Q s w most)/\ ∀c,av r c->h0.n<=c:=by
 have S:=Si ok
 have fp:Fl p:=by obtain⟨b,_,_,_,rfl,_⟩:=t.ex;exact eG
 obtain⟨mk,hmk⟩: ∃k:Nat,max most 1=(k:Int):=⟨(max most 1).toNat,by omega⟩
 have hmk':(max most 1).toNat=mk:=by omega
 refine ac (n:=27) (rs:=[.tmp 8]) rfl Tryz.e18 rfl rfl rfl (lbt rfl) ?_
 simp only [BS,Nat.reduceLT]
 refine ag (cM (by assumption)) S ?_;clear S;intro h b4 S n_b4
 simp only [BS,Nat.reduceLT,Nat.reduceEqDiff,if_false]
 refine ag (cM (by exact bD)) S ?_;clear S;intro h b5 S n_b5
 simp only [BS,Nat.reduceLT,Nat.reduceEqDiff,if_false]
 refine ag (cM (by exact bD)) S ?_;clear S;intro h b6 S n_b6
 simp only [BS,LB,Nat.reduceLT,Nat.reduceEqDiff,Tryz.FFa218,S.ld (b:=b4) (o:=0) m2 rfl]
 have k0:=S.fr.n
 refine step_ret (j7 S.ok (t.gr S.gr) (by omega)) ?_
 rintro r h ⟨g,sl,hc⟩
 replace S:=S.call g
 simp only [BS,LB,Nat.reduceLT,Nat.reduceEqDiff,Tryz.FFa218,sl.lenq]
 replace S:=S.nilG (k:=1)
 refine aT (fun(i:Nat) ρ h=>i<=l.length/\ ∃vR,St NoM h0 h [(b6,.row [.int .i64 w] 1),(b5,.row [.int .i64 s] 1),(b4,.row [p] 1)] [(vR,1,eX (xx i))]/\(i=0->vR=.slice none 0 0)/\ρ 3=.int .i64 most/\ρ 4=ptrTo b4/\ρ 5=ptrTo b5/\ρ 6=ptrTo b6/\ρ 9=vR/\ρ 13=.int .i64 (l.length:Nat)/\ρ 14=.int .i64 i) (fun i=>l.length-i) ?_ 0 _ _ ?_
 . clear S
   intro i ih ρ h ⟨hi,vR,S,hv,r3,r4,r5,r6,r9,r13,r14⟩
   have wi:ar .i64 ((i:Int)+1)=((i+1:Nat):Int):=by rw [wrap64]<;>omega
   by_cases hlt:i<l.length
   . simp only [BS,LB,Nat.reduceLT,Nat.reduceEqDiff,r9,r13,r14,aH,hlt]
     refine ag (bH (by exact xL) (by exact xQ) (by decide) (by rfl)) S ?_;clear S;intro h bt S n_bt;simp only [LC,aR,bj,ae,Nat.reduceMul,Nat.reduceAdd,xF,xH,xC,xM]at S
     simp only [BS,LB,Nat.reduceLT,Nat.reduceEqDiff]
     have src:aJ h 1 (.slice (some ⟨bt,0,none⟩) 1 1)=some (1,[.int .i64 (i:Nat)]):=by simp only [aJ];rw [S.lds (b:=bt) (o:=0) (n:=1*1) m0 (lbt rfl)];rfl
     replace S:=S.drop1
     refine eo (S.grow (j:=0) (m:=1) (new:=[.int .i64 (i:Nat)]) rfl xL xQ (by decide) yr src rfl (by decide) rfl (by rw [nv];simp;omega)) ?_
     clear S src;rintro h vR' S
     simp only [LC]at S
     have e:eX (xx i)++[.int .i64 (i:Nat)]=eX (xx (i+1)):=by unfold eX;rw [List.range_succ,ym];rfl
     rw [e]at S
     simp only [BS,LB,Nat.reduceLT,Nat.reduceEqDiff,r14,wi]
     exact ih (i+1) _ _ (by omega) ⟨by omega,vR',S,fun h=>(by omega),by simp [aa,r3],by simp [aa,r4,an],by simp [aa,r5,an],by simp [aa,r6,an],by simp [aa],by simp [aa,r13],by simp [aa]⟩
   . have ei:i=l.length:=by omega
     subst ei
     simp only [BS,LB,Nat.reduceLT,Nat.reduceEqDiff,r3,r4,r5,r6,r9,r13,r14,aH,hlt]
     by_cases hn:l.length=0
     . have ev:=hv hn
       subst ev
       have kS:=S.fr.n
       rw [hmk]
       refine au (vz S.ok) ?_
       intro h' g
       replace S:=S.call g
       simp only [BS,LB,ab,Nat.reduceLT,Nat.reduceEqDiff]
       refine⟨S.gr,.inl ⟨rfl,?_⟩,fun c hc=>hc.elim⟩
       unfold actL
       rw [hn];simp
     . have sA:ay h 1 bI vR (xx l.length):=(S.gown _ m0).1.sl (rJ _).symm dG (by decide)
       have kS:=S.fr.n
       have cf:=wY (t.gr S.gr) hR hQ (by omega) (s:=s) (w:=w) (b4:=b4) (b5:=b5) (b6:=b6) (S.ld m2 rfl) (S.ld m1 rfl) (S.ld m0 rfl)
       rw [hmk]
       refine step_ret (first_ok (N:=l.length) (m:=mk) (Gr.refl S.ok) sA (by intro e;have:=congrArg List.length e;rw [List.length_range]at this;exact hn this) (by simp;omega) (fun x hx=>List.mem_range.1 hx) cf (by omega)) ?_
       rintro r h' ⟨g,sl',hc'⟩
       replace S:=S.call g
       simp only [BS,LB,ab,Nat.reduceLT,Nat.reduceEqDiff]
       rw [List.length_range]at sl'
       exact⟨S.gr,by unfold actL;rw [hmk'];exact sl',fun c hc=>xz kS (hc' c hc)⟩
 . exact⟨xB _,_,S,fun _=>rfl,by simp [aa,cg],by simp [aa,an],by simp [aa,an],by simp [aa,an],by simp [aa],by simp [aa],by simp [aa]⟩
open Tryz in
def Tryz.FFb155:=aj a1<|aj s1<|aj z1<|aj n1<|aj u2<|aj a2<|aj s2<|aj z2<|aj i2<|aj u3<|aj a3<|aj s3<|aj z3<|aj i3<|aj u4<|aj a4<|aj s4<|aj z4<|aj n4<|aj u5<|aj a5<|aj s5<|aj z5<|aj i5<|aj u6<|aj a6<|aj s6<|aj z6<|aj i6<|aj a7<|aj s7<|aj z7<|aj i7<|aj n7<|aj p7<|aj ff7<|aj d7<|aj a37<|aj s37<|aj z37<|aj n37<|aj u44<|aj a44<|aj s44<|aj z44<|aj i44<|aj a117<|aj s117<|aj z117<|aj i117<|aj n117<|aj p117<|aj ff117<|aj d117<|aj u173<|aj a173<|aj s173<|aj z173<|aj q173<|n173
open Tryz in
def Tryz.FFb154:=aj a1<|aj s1<|aj z1<|aj n1<|aj u3<|aj a3<|aj s3<|aj z3<|aj i3<|aj u4<|aj a4<|aj s4<|aj z4<|aj n4<|aj a30<|aj s30<|aj z30<|aj i30<|aj n30<|aj p30<|aj ff30<|aj d30<|aj u32<|aj a32<|aj s32<|aj z32<|aj q32<|aj i32<|aj n32<|aj u146<|aj a146<|aj s146<|aj z146<|aj q146<|aj n146<|aj a148<|aj s148<|aj z148<|aj i148<|aj n148<|aj p148<|aj ff148<|d148
open Tryz in
def Tryz.FFb156:=aj a1<|aj s1<|aj z1<|aj n1<|aj u4<|aj a4<|aj s4<|aj z4<|aj n4<|aj a30<|aj s30<|aj z30<|aj i30<|aj n30<|aj p30<|aj ff30<|aj d30<|aj u32<|aj a32<|aj s32<|aj z32<|aj q32<|aj i32<|aj n32<|aj u146<|aj a146<|aj s146<|aj z146<|aj q146<|aj n146<|aj a148<|aj s148<|aj z148<|aj i148<|aj n148<|aj p148<|aj ff148<|d148
open Tryz in
def Tryz.FFb157:=aj a1<|aj s1<|aj z1<|aj n1<|aj u3<|aj a3<|aj s3<|aj z3<|aj i3<|aj u4<|aj a4<|aj s4<|aj z4<|aj n4<|aj a30<|aj s30<|aj z30<|aj i30<|aj n30<|aj p30<|aj ff30<|aj d30<|aj u32<|aj a32<|aj s32<|aj z32<|aj q32<|aj i32<|aj n32<|aj u38<|aj a38<|aj s38<|aj z38<|aj q38<|aj i38<|aj n38<|aj u40<|aj a40<|aj s40<|aj z40<|aj q40<|aj n40<|aj u71<|aj a71<|aj s71<|aj z71<|aj q71<|aj n71<|aj a96<|aj s96<|aj z96<|aj i96<|aj n96<|aj p96<|aj ff96<|aj d96<|aj u146<|aj a146<|aj s146<|aj z146<|aj q146<|aj n146<|aj a148<|aj s148<|aj z148<|aj i148<|aj n148<|aj p148<|aj ff148<|d148
structure Rl where
 g:FuncId
 post:Array Value
 ok:Bool
 code:Int
def encR(r:Rl):List Value:=[.func (.func r.g) #[] r.post,.int .i64 r.code]
theorem encR_len(r:Rl):(encR r).length=2:=rfl
def kB:List Rl->Int
 | []=>0
 |r::l=>if r.ok=true then kB l else r.code
theorem lP{x:Option Tch}:iH none x=true:=by cases x<;>rfl
theorem uT{rs:List Rl}{i:Nat}(hi:i<rs.length):kB (rs.drop i)=if rs[i].ok=true then kB (rs.drop (i+1))else rs[i].code:=by
 rw [List.drop_eq_getElem_cons hi];rfl
theorem uW {h0:Hp} (ok:h0.t.Sized h0.n) {v:Value} {rs:List Rl} (sl:ay h0 2 encR v rs) (hl:rs.length<1000) (hp: ∀i (hi:i<rs.length),(∀j,j<i->(rs.getD j ⟨0,#[],false,0⟩).ok=true)-> ∀h,Gr h0 h->aZ xt rs[i].g rs[i].post.toList h (.bool rs[i].ok)):
 aZ xt 55 [v] h0 (.int .i64 (kB rs)):=by
 have S:=Si ok
 refine ac (n:=18) (rs:=[.tmp 2]) rfl Tryz.e55 rfl rfl rfl (lbt rfl) ?_
 simp only [BS,LB,Nat.reduceLT,Nat.reduceEqDiff,Tryz.FFb155,sl.lenq]
 refine aT (fun(i:Nat) ρ h=>i<=rs.length/\St NoM h0 h [] []/\kB rs=kB (rs.drop i)/\(∀j,j<i->(rs.getD j ⟨0,#[],false,0⟩).ok=true)/\ρ 5=v/\ρ 6=.int .i64 (rs.length:Nat)/\ρ 7=.int .i64 i) (fun i=>rs.length-i) ?_ 0 _ _ ?_
 . clear S
   intro i ih ρ h ⟨hi,S,e,hb,r5,r6,r7⟩
   have w:ar .i64 ((i:Int)+1)=((i+1:Nat):Int):=by rw [wrap64]<;>omega
   by_cases hlt:i<rs.length
   . obtain⟨c,o,x,y⟩:=(sl.gr S.gr).ix (kd:=.i64) encR_len hlt
     have hr:=hp i hlt hb
     have hi':rs.getD i ⟨0,#[],false,0⟩=rs[i]:=by rw [xu,xw hlt];rfl
     rw [uT hlt]at e
     generalize rs[i]=r at hr y e hi'
     have gr:=S.gr
     have Sx:=S
     replace S:=Si S.ok
     simp only [BS,LB,Nat.reduceLT,Nat.reduceEqDiff,Tryz.FFb155,r5,r6,r7,aH,hlt,x,y,encR]
     refine ag aD S ?_;clear S;intro h b4 S n_b4
     simp only [BS,LB,Nat.reduceLT,Nat.reduceEqDiff]
     refine aE (S.store (i:=0) rfl ?_ ?_ rfl rfl ?_ ono) ?_
     . exact(by exact Tryz.s117)
     . exact(by intro x e;cases e)
     . exact lbt rfl
     clear S;rintro h ⟨S,mo⟩;clear mo;simp only [LC,ae,lay,xR,xS,Nat.reduceAdd]at S
     simp only [BS,LB,Nat.reduceLT,Nat.reduceEqDiff,Tryz.FFb155,S.ld (b:=b4) (o:=0) m0 rfl]
     refine au (hr _ (gr.trans S.gr)) ?_
     intro h' g'
     replace S:=S.call g'
     cases hk:r.ok with
     | true=>
       rw [hk,if_pos rfl]at e
       simp only [BS,LB,Nat.reduceLT,Nat.reduceEqDiff,r7,w]
       exact ih (i+1) _ _ (by omega) ⟨by omega,Sx.call S.gr,e,fun j hj=>by
        rcases Nat.lt_or_ge j i with h|h
        . exact hb j h
        . rw [show j=i by omega,hi'];exact hk,by simp [aa,r5],by simp [aa,r6],by simp [aa]⟩
     | false=>
       rw [hk,if_neg Bool.false_ne_true]at e
       simp only [BS,LB,ab,Nat.reduceLT,Nat.reduceEqDiff,Tryz.FFb155,S.ld (b:=b4) (o:=1) m0 rfl]
       exact⟨by rw [e],gr.trans S.gr⟩
   . simp only [BS,LB,ab,Nat.reduceLT,Nat.reduceEqDiff,r6,r7,aH,hlt]
     have:i=rs.length:=by omega
     subst this
     rw [List.drop_length]at e
     exact⟨by rw [e];rfl,S.gr⟩
 . exact⟨xB _,S,rfl,fun j hj=>by omega,by simp [aa,aQ],by simp [aa],by simp [aa]⟩
structure TabO(E:Env)(h0:Hp)(pt:Value)(nd mk:Nat)(gM gN:FuncId):Prop where
 fl:Fl pt
 marks: ∀h,Gr h0 h->Ret E gM [pt] h fun r h'=>Gr h h'/\ ∃l:List Int,ay h' 1 (encI .i64) r l/\l.length=mk
 nodes: ∀h,Gr h0 h->aZ E gN [pt] h (.int .i64 (nd:Nat))
def iG(N nd mk:Nat)(f t:Int):Int:=if¬(0<=f/\f<N)then 17 else if¬(0<=t/\t<N)then 18 else if 0<mk/\nd=N then 0 else 19
theorem ur{hq:Hp}{b2 b3 bp:Nat}{γ:Gra}{nb:Nat}(c:bT hq nb (ptrTo bp) γ){v:Int}(l2:hq.load b2 0 1=some [.int .i64 v])(l3:hq.load b3 0 1=some [ptrTo bp]): ∀h,Gr hq h->aZ xt 54 [ptrTo b2,ptrTo b3] h (.bool (decide (0<=v/\v<γ.nodes))):=by
 intro h g
 have S:=Si g.ok
 have z2:=bK g.ok (g.load l2)
 have z3:=bK g.ok (g.load l3)
 refine ac (n:=11) (rs:=[.tmp 2]) rfl Tryz.e54 rfl rfl rfl (lbt rfl) ?_
 simp only [BS]
 refine aw (aC rfl) (q:=0) (ps:=[(3,5)]) (by kernel_rfl) ?_
 by_cases c0:0<=v
 . simp only [BS,LB,cls,Nat.reduceLT,Nat.reduceEqDiff,Nat.reduceAdd,Nat.reducePow,Nat.reduceDiv,Nat.reduceMod,Nat.reduceLeDiff,Tryz.FFb154,g.load l2,g.load l3,c0]
   refine cN (cB S.ok ((c.gr g).gr S.gr)) ?_
   intro h1 g1
   have v2:=aM g1 z2
   have v3:=aM g1 z3
   replace S:=S.call g1
   simp only [BS,LB,cls,ab,Nat.reduceLT,Nat.reduceEqDiff,Nat.reduceAdd,Nat.reducePow,Nat.reduceDiv,Nat.reduceMod,Nat.reduceLeDiff]
   refine⟨by simp only [aX,bg,aS,bz,aV,ne_eq,not_false_eq_true,bE,bR,aW,jD,bU,cL,aP,Nat.reduceLT,Nat.reduceEqDiff,reduceIte,an,cg,kD,lP,xy,bG v2,bQ v2,bG v3,bQ v3],S.gr⟩
 . simp only [BS,LB,cls,ab,Nat.reduceLT,Nat.reduceEqDiff,Nat.reduceAdd,Nat.reducePow,Nat.reduceDiv,Nat.reduceMod,Nat.reduceLeDiff,Tryz.FFb154,g.load l2,g.load l3,c0]
   refine⟨by simp only [aX,bg,aS,bz,aV,ne_eq,not_false_eq_true,bE,bR,aW,jD,bU,cL,aP,Nat.reduceLT,Nat.reduceEqDiff,reduceIte,an,cg,kD,lP,xy],by simp [c0],S.gr⟩
theorem node_ok{h0:Hp}(ok:h0.t.Sized h0.n){b3:Nat}{v:Int}:Ret xt 53 [.int .i64 v,ptrTo b3] h0 fun r h'=>Gr h0 h'/\ ∃b2,r=.func (.func 54) #[] #[ptrTo b2,ptrTo b3]/\h'.load b2 0 1=some [.int .i64 v]:=by
 have S:=Si ok
 refine ac (n:=5) (rs:=[.tmp 3]) rfl Tryz.e53 rfl rfl rfl (lbt rfl) ?_
 simp only [BS,Nat.reduceLT]
 refine ag (cM (by exact bD)) S ?_;clear S;intro h b2 S n_b2
 simp only [BS,LB,ab,Nat.reduceLT,Nat.reduceEqDiff]
 exact⟨S.gr,b2,rfl,S.ld m0 rfl⟩
def isP:Value->Bool
 | .pointer none=>false
 |_=>true
theorem net2_ok{hq:Hp}{b3:Nat}{p:Value}(hp:(∃b,p=ptrTo b)\/p=.pointer none)(l3:hq.load b3 0 1=some [p]): ∀h,Gr hq h->aZ xt 56 [ptrTo b3] h (.bool (isP p)):=by
 intro h g
 have S:=Si g.ok
 refine ac (n:=4) (rs:=[.tmp 1]) rfl Tryz.e56 rfl rfl rfl (lbt rfl) ?_
 rcases hp with⟨bp,rfl⟩|rfl
 . simp only [BS,LB,ab,Nat.reduceLT,Nat.reduceEqDiff,Tryz.FFb156,g.load l3]
   exact⟨rfl,S.gr⟩
 . simp only [BS,LB,ab,Nat.reduceLT,Nat.reduceEqDiff,Tryz.FFb156,g.load l3]
   exact⟨rfl,S.gr⟩
theorem tab3_ok{hq:Hp}{b3 b4 bp nd mk:Nat}{pt:Value}{γ:Gra}{nb:Nat}(c:bT hq nb (ptrTo bp) γ)(T:TabO xt hq pt nd mk 46 58)(l4:hq.load b4 0 1=some [pt])(l3:hq.load b3 0 1=some [ptrTo bp]): ∀h,Gr hq h->aZ xt 57 [ptrTo b4,ptrTo b3] h (.bool (decide (0<mk/\nd=γ.nodes))):=by
 intro h g
 have fp:=T.fl
 have S:=Si g.ok
 have z4:=bK g.ok (g.load l4)
 have z3:=bK g.ok (g.load l3)
 refine ac (n:=14) (rs:=[.tmp 2]) rfl Tryz.e57 rfl rfl rfl (lbt rfl) ?_
 simp only [BS]
 refine aw (aC rfl) (q:=0) (ps:=[(6,7)]) (by kernel_rfl) ?_
 simp only [BS,LB,cls,Nat.reduceLT,Nat.reduceEqDiff,Nat.reducePow,Nat.reduceDiv,Nat.reduceMod,Nat.reduceLeDiff,Tryz.FFb157,g.load l4,g.load l3]
 refine dz (T.marks _ (g.trans S.gr)) ?_
 rintro r h1 ⟨g1,l,sl,el⟩
 replace S:=S.call g1
 have v4:=aM g1 z4
 have v3:=aM g1 z3
 by_cases hm:0<mk
 . have c0:(0:Int)<(l.length:Int):=by omega
   simp only [BS,LB,cls,Nat.reduceLT,Nat.reduceEqDiff,Nat.reduceAdd,Nat.reducePow,Nat.reduceDiv,Nat.reduceMod,Nat.reduceLeDiff,Tryz.FFb157,sl.lenq,c0,g1.load (g.load l4),g1.load (g.load l3)]
   refine cN (T.nodes _ (g.trans S.gr)) ?_
   intro h2 g2
   have k4:=aM g2 (xD z4 g1.n)
   have k3:=aM g2 (xD z3 g1.n)
   replace S:=S.call g2
   simp only [BS,LB,cls,Nat.reduceLT,Nat.reduceEqDiff,Nat.reduceAdd,Nat.reducePow,Nat.reduceDiv,Nat.reduceMod,Nat.reduceLeDiff,Tryz.FFb157,g2.load (g1.load (g.load l3))]
   refine cN (cB S.ok ((c.gr g).gr S.gr)) ?_
   intro h3 g3
   have q4:=aM g3 (xD z4 (g1.trans g2).n)
   have q3:=aM g3 (xD z3 (g1.trans g2).n)
   replace S:=S.call g3
   simp only [BS,LB,cls,ab,Nat.reduceLT,Nat.reduceEqDiff,Nat.reduceAdd,Nat.reducePow,Nat.reduceDiv,Nat.reduceMod,Nat.reduceLeDiff]
   refine⟨by simp only [aX,bg,aS,bz,aV,ne_eq,not_false_eq_true,bE,bR,bC,aW,bU,cL,aP,Nat.reduceLT,Nat.reduceEqDiff,reduceIte,xy,an,cg,bG v3,bQ v3,bG v4,bQ v4,bG k3,bQ k3,bG k4,bQ k4,bG q3,bQ q3,bG q4,bQ q4],?_⟩
   exact⟨by simp [hm,Int.ofNat_inj],S.gr⟩
 . have c0: ¬(0:Int)<(l.length:Int):=by omega
   simp only [BS,LB,cls,ab,Nat.reduceLT,Nat.reduceEqDiff,Nat.reduceAdd,Nat.reducePow,Nat.reduceDiv,Nat.reduceMod,Nat.reduceLeDiff,Tryz.FFb157,sl.lenq,c0]
   refine⟨by simp only [aX,bg,aS,bz,aV,ne_eq,not_false_eq_true,Nat.reduceEqDiff,kD,lP,xy],by simp [hm],S.gr⟩
open Tryz in
def Tryz.FFb2143:=aj a1<|aj s1<|aj z1<|aj n1<|aj u2<|aj a2<|aj s2<|aj z2<|aj i2<|aj u3<|aj a3<|aj s3<|aj z3<|aj i3<|aj u4<|aj a4<|aj s4<|aj z4<|aj n4<|aj u38<|aj a38<|aj s38<|aj z38<|aj q38<|aj i38<|aj n38<|aj u40<|aj a40<|aj s40<|aj z40<|aj q40<|aj n40<|aj u71<|aj a71<|aj s71<|aj z71<|aj q71<|aj n71<|aj a96<|aj s96<|aj z96<|aj i96<|aj n96<|aj p96<|aj ff96<|aj d96<|aj a126<|aj s126<|aj z126<|aj n126<|aj a169<|aj s169<|aj z169<|n169
open Tryz in
def Tryz.FFb2100:=aj a1<|aj s1<|aj z1<|aj n1<|aj u2<|aj a2<|aj s2<|aj z2<|aj i2<|aj u3<|aj a3<|aj s3<|aj z3<|aj i3<|aj u38<|aj a38<|aj s38<|aj z38<|aj q38<|aj i38<|aj n38<|aj u40<|aj a40<|aj s40<|aj z40<|aj q40<|aj n40<|aj u71<|aj a71<|aj s71<|aj z71<|aj q71<|aj n71<|aj a96<|aj s96<|aj z96<|aj i96<|aj n96<|aj p96<|aj ff96<|d96
open Tryz in
def Tryz.FFb244:=aj a1<|aj s1<|aj z1<|aj n1<|aj u2<|aj a2<|aj s2<|aj z2<|aj i2<|aj u3<|aj a3<|aj s3<|aj z3<|aj i3<|aj u4<|aj a4<|aj s4<|aj z4<|aj n4<|aj u5<|aj a5<|aj s5<|aj z5<|aj i5<|aj u6<|aj a6<|aj s6<|aj z6<|aj i6<|aj u9<|aj a9<|aj s9<|aj z9<|aj n9<|aj u15<|aj a15<|aj s15<|aj z15<|aj q15<|aj i15<|aj n15<|aj u17<|aj a17<|aj s17<|aj z17<|aj q17<|aj i17<|aj n17<|aj u25<|aj a25<|aj s25<|aj z25<|aj q25<|aj n25<|aj u38<|aj a38<|aj s38<|aj z38<|aj q38<|aj i38<|aj n38<|aj u40<|aj a40<|aj s40<|aj z40<|aj q40<|aj n40<|aj u71<|aj a71<|aj s71<|aj z71<|aj q71<|aj n71<|aj a96<|aj s96<|aj z96<|aj i96<|aj n96<|aj p96<|aj ff96<|aj d96<|aj a167<|aj s167<|aj z167<|aj n167<|aj a169<|aj s169<|aj z169<|aj n169<|aj a274<|aj s274<|aj z274<|aj i274<|aj n274<|aj p274<|aj ff274<|d274
theorem eZ.keep{h h':Hp}{m n:Nat}{v:Value}{R:Nat->List Int}(ok:h.t.Sized h.n)(g:gc h h')(r:eZ h m v n R):eZ h' m v n R:=by
 obtain⟨ws,a,b,c,d⟩:=r
 exact⟨ws,a.keep ok g,b,c,fun i w hw=>⟨(d i w hw).1.keep ok g,(d i w hw).2⟩⟩
theorem TabAt.keep{h h':Hp}{m N:Nat}{p:Value}{l:List Int}{R Q:Nat->List Int}(ok:h.t.Sized h.n)(g:gc h h')(t:TabAt h m p N l R Q):TabAt h' m p N l R Q:=by
 obtain⟨b,vM,vT,vF,e,h1,h2,h3,h4,h5,h6⟩:=t.ex
 exact⟨b,vM,vT,vF,e,g.row ok h1,h2.keep ok g,h3.keep ok g,h4.keep ok g,h5,h6⟩
theorem each_ok{h0:Hp}(ok:h0.t.Sized h0.n){pt ve:Value}(f1:Fl pt)(f2:Fl ve):Ret xt 99 [pt,ve] h0 fun v h'=>Gr h0 h'/\ ∃b1 b2,v=.func (.func 143) #[] #[ptrTo b1,ptrTo b2]/\h0.n<=b1/\h0.n<=b2/\h'.load b1 0 1=some [pt]/\h'.load b2 0 1=some [ve]:=by
 have S:=Si ok
 refine ac (n:=6) (rs:=[.tmp 4]) rfl Tryz.e99 rfl rfl rfl (lbt rfl) ?_
 simp only [BS,Nat.reduceLT]
 refine ag (cM (by assumption)) S ?_;clear S;intro h b1 S n_b1
 simp only [BS,Nat.reduceLT,Nat.reduceEqDiff,if_false]
 refine ag (cM (by assumption)) S ?_;clear S;intro h b2 S n_b2
 simp only [BS,LB,ab,Nat.reduceLT,Nat.reduceEqDiff]
 exact⟨S.gr,b1,b2,rfl,n_b1,n_b2,S.ld m1 rfl,S.ld m0 rfl⟩
def TellF(E:Env)(hq:Hp)(g:FuncId)(post:List Value)(N:Nat)(f:Nat->Int):Prop:= ∀h,h.t.Sized h.n->gc hq h-> ∀v,v<N->aZ E g ([.int .i64 (v:Nat)]++post) h (.int .i64 (f v))
theorem each_it{hq h0:Hp}(okq:hq.t.Sized hq.n)(ok0:h0.t.Sized h0.n)(kq:gc hq h0)(nq:hq.n<=h0.n){m N:Nat}{pt:Value}{l:List Int}{R Q:Nat->List Int}(t:TabAt hq m pt N l R Q)(hN:N<=1000){b1 b2:Nat}{g:FuncId}{post:Array Value}{f:Nat->Int}(hf:TellF xt hq g post.toList N f)
 (e1:h0.load b1 0 1=some [pt]) (e2:h0.load b2 0 1=some [.func (.func g) #[] post]):
 IterN xt 143 [] [ptrTo b1,ptrTo b2] h0 (fun c=>c=b1\/c=b2\/c<hq.n) ((xx N).map fun(v:Nat)=>[.int .i64 (f v)]):=by
 intro lb J Z hz Y h F s hj
 have l1:=s.load ok0 e1 (.inl rfl)
 have fp:Fl pt:=by obtain⟨b,_,_,_,rfl,_⟩:=t.ex;exact eG
 refine enter (n:=17) (rs:=[]) rfl Tryz.e143 rfl rfl rfl (lbt rfl) ?_
 simp only [BS,LB,Nat.reduceLT,Tryz.FFb2143,l1]
 refine au (mz s.ok (t.keep okq (s.keep kq nq (fun c hc=>.inr (.inr hc))))) ?_
 intro h' g1
 have sA:=s.gr g1
 have jA:=Y.gr _ _ _ _ hj g1
 simp only [BS]
 refine aT (fun(i:Nat) ρ h=>i<=N/\ ∃F,ItS h0 (fun c=>c=b1\/c=b2\/c<hq.n) h F/\J i h F/\ρ 0=.func (.yield lb) #[] #[]/\ρ 1=ptrTo b1/\ρ 2=ptrTo b2/\ρ 6=.int .i64 (N:Nat)/\ρ 7=.int .i64 i) (fun i=>N-i) ?_ 0 _ _ ?_
 . clear l1 s hj sA jA F g1 h
   intro i ih ρ h ⟨hi,F,s,hj,r0,r1,r2,r6,r7⟩
   have w:ar .i64 ((i:Int)+1)=((i+1:Nat):Int):=by rw [wrap64]<;>omega
   by_cases hlt:i<N
   . have l2:=s.load ok0 e2 (.inr (.inl rfl))
     have hx:((xx N).map fun(v:Nat)=>[Value.int .i64 (f v)])[i]? =some [.int .i64 (f i)]:=by rw [yd,List.getElem?_range hlt];rfl
     simp only [BS,LB,Nat.reduceLT,Nat.reduceEqDiff,Tryz.FFb2143,r0,r2,r6,r7,aH,hlt,l2]
     refine au (hf _ s.ok (s.keep kq nq (fun c hc=>.inr (.inr hc))) i hlt) ?_
     intro h2 g2
     simp only [BS,LB,Nat.reduceLT,Nat.reduceEqDiff]
     refine eL Y (s.gr g2) (Y.gr _ _ _ _ hj g2) (i:=i) hx ?_ ?_ ?_
     . intro h3 F3 a s3 _ _
       simp only [BS,LB,Nat.reduceLT,Nat.reduceEqDiff,r7,w]
       exact ih (i+1) _ _ (by omega) ⟨by omega,F3,s3,a,by simp [aa,r0],by simp [aa,r1,an],by simp [aa,r2,an],by simp [aa,r6],by simp [aa]⟩
     . intro h3 a _
       simp only [BS,LB,Nat.reduceLT,Nat.reduceEqDiff]
       exact iS rfl ⟨rfl,.inr (.inl ⟨_,rfl,a⟩)⟩
     . intro v h3 a
       exact absurd a (hz v h3)
   . simp only [BS,LB,Nat.reduceLT,r6,r7,aH,hlt]
     have:i=N:=by omega
     subst this
     exact dB (dr ⟨rfl,_,rfl,rfl,.inl ⟨_,F,rfl,by simpa using hj⟩⟩)
 . exact⟨xB _,F,sA,jA,by simp [aa,cg],by simp [aa,cg,an],by simp [aa,cg,an],by simp [aa],by simp [aa]⟩
theorem pi1_ok{hq:Hp}{m N:Nat}{p:Value}{l:List Int}{R Q:Nat->List Int}(okq:hq.t.Sized hq.n)(t:TabAt hq m p N l R Q)(hR: ∀i,i<l.length->(R i).length=N)(hQ: ∀i,i<l.length->(Q i).length=N)(hl:l.length<1000){va:Value}{act:List Int}(ha:ay hq 1 (encI .i64) va act)(hal:act.length<1000){w:Int}{b3 b4 b5:Nat}(l3:hq.load b3 0 1=some [p])(l4:hq.load b4 0 1=some [va])(l5:hq.load b5 0 1=some [.int .i64 w]):
 TellF xt hq 100 [ptrTo b3,ptrTo b4,ptrTo b5] N (fun v=>d9 N l.length R Q v w act):=by
 intro h ok k v hv
 have fp:Fl p:=by obtain⟨b,_,_,_,rfl,_⟩:=t.ex;exact eG
 have fa:=ha.fl
 have S:=Si ok
 refine ac (n:=11) (rs:=[.tmp 5]) rfl Tryz.e100 rfl rfl rfl (lbt rfl) ?_
 simp only [BS,LB,Nat.reduceLT,Nat.reduceEqDiff,Tryz.FFb2100,k.load okq l3,k.load okq l4,k.load okq l5]
 refine au (bBest_ok S.ok (t.keep okq k) hR hQ hl (ha.keep okq k) hal) ?_
 intro h1 g1
 replace S:=S.call g1
 simp only [BS,LB,ab,Nat.reduceLT,Nat.reduceEqDiff]
 exact S.gr
theorem bPi_ok{h0:Hp}(ok:h0.t.Sized h0.n){m N:Nat}{p:Value}{l:List Int}{R Q:Nat->List Int}(t:TabAt h0 m p N l R Q)(hR: ∀i,i<l.length->(R i).length=N)(hQ: ∀i,i<l.length->(Q i).length=N)(hl:l.length<1000)(hN:N<=1000){va:Value}{act:List Int}(ha:ay h0 1 (encI .i64) va act)(hal:act.length<1000){w:Nat}(hw:w<N):
 Ret xt 44 [p,va,.int .i64 (w:Nat)] h0 fun r h'=>Gr h0 h'/\ay h' 1 (encI .i64) r ((xx N).map fun(v:Nat)=>d9 N l.length R Q v w act)/\ ∀c,av r c->h0.n<=c:=by
 have fp:Fl p:=by obtain⟨b,_,_,_,rfl,_⟩:=t.ex;exact eG
 have fa:=ha.fl
 have S:=Si ok
 have c0:0<=(w:Int)/\(w:Int)<(N:Int):=by omega
 refine ac (n:=21) (rs:=[.cell 6 25]) rfl Tryz.e44 rfl rfl rfl (lbt rfl) ?_
 simp only [BS,Nat.reduceLT]
 refine ag (cM (by assumption)) S ?_;clear S;intro h b3 S n_b3
 simp only [BS,Nat.reduceLT,Nat.reduceEqDiff,if_false]
 refine ag (cM (by assumption)) S ?_;clear S;intro h b4 S n_b4
 simp only [BS,Nat.reduceLT,Nat.reduceEqDiff,if_false]
 refine ag (cM (by exact bD)) S ?_;clear S;intro h b5 S n_b5
 have gq:=S.gr
 have l3:=S.ld (b:=b3) (o:=0) m2 rfl
 have l4:=S.ld (b:=b4) (o:=0) m1 rfl
 have l5:=S.ld (b:=b5) (o:=0) m0 rfl
 have okq:=S.ok
 clear S
 rename Hp=>hq
 have S:=Si okq
 simp only [BS,Tryz.FFb244]
 refine ag aD S ?_;clear S;intro h b6 S n_b6
 simp only [BS,LB,Nat.reduceLT,Nat.reduceEqDiff,Tryz.FFb244,S.old l3 (fun h=>h),S.old l5 (fun h=>h)]
 refine au (fQ S.ok ((t.gr gq).gr S.gr)) ?_
 intro h g;replace S:=S.call g;clear g
 have dc:decide (0<=(w:Int)/\(w:Int)<(N:Int))=true:=decide_eq_true c0
 simp only [BS,LB,Nat.reduceLT,Nat.reduceEqDiff,Tryz.FFb244,dc,S.old l3 (fun h=>h)]
 have tf:=pi1_ok okq (t.gr gq) hR hQ hl (ha.gr gq) hal l3 l4 l5
 have l6a:=(S.row (b:=b6) m0).lt S.ok
 refine step_ret (each_ok S.ok fp jx) ?_
 rintro r h ⟨g,b1,b2,rfl,n1,n2,y1,y2⟩
 replace S:=S.call g;clear g
 have it:=each_it okq S.ok S.gr.keep S.fr.n (t.gr gq) hN tf y1 y2
 have kn:=S.fr.n
 have kG:=gq.n
 have z1:=bK S.ok y1
 have z2:=bK S.ok y2
 rename Hp=>hE
 have S1:=S
 have okE:=S.ok
 have l6:=(S.row (b:=b6) m0).lt okE
 simp only [BS]
 replace S:=S.base
 replace S:=S.nilG (k:=1)
 generalize hxs:((xx N).map fun(v:Nat)=>d9 N l.length R Q v w act)=xs
 have hlx:xs.length=N:=by rw [<-hxs];simp
 replace it:IterN xt 143 [] [ptrTo b1,ptrTo b2] hE (fun c=>c=b1\/c=b2\/c<hq.n) (xs.map fun x=>[.int .i64 x]):=by rw [<-hxs,List.map_map];exact it
 refine jv S (g:=143) (a:=#[]) (b:=#[ptrTo b1,ptrTo b2]) (by simp [bU,aa,an]) rfl rfl ?_
 intro h2 db lb S' hdb hlb g2
 obtain⟨X,hX,S'⟩: ∃X:fm,X=_/\St (· ∈[b6]) hE h2 [(lb,.loop X),(db,.dfr),(b6,.row [.slice none 0 0] 1)] [(.slice none 0 0,1,[])]:=⟨_,rfl,S'⟩
 have hJ:Yld xt lb (fun k h' F=> ∃(vR:Value),St (· ∈[b6]) hE h' [(lb,.loop X),(db,.dfr),(b6,.row [vR] 1)] [(vR,1,ints (xs.take k))]/\k<=xs.length/\F=keys [(lb,.loop X),(db,.dfr),(b6,.row [vR] 1)] [(vR,1,ints (xs.take k))]) (fun _ _=>False) (xs.map fun x=>[.int .i64 x]):=by
  refine⟨?_,?_,fun _ _ h=>h.elim,?_⟩
  . rintro i h F ⟨vR,S,_,rfl⟩;exact⟨S.ok,fun b hb=>S.key_lt hb⟩
  . rintro i h F h' ⟨vR,S,a,rfl⟩ gg;exact⟨vR,S.call gg,a,rfl⟩
  . rintro i x hR F hx ⟨vR,S,a,rfl⟩
    have hil:i<xs.length:=by
     have:=(List.getElem?_eq_some_iff.1 hx).1
     simpa using this
    rw [yd,xw hil]at hx
    cases hx
    have tk:ints (xs.take (i+1))=ints (xs.take i)++[.int .i64 xs[i]]:=by rw [List.take_add_one,xw hil];exact mX _ _
    have tl:(xs.take i).length<=i:=by rw [xK];omega
    subst hX
    refine jw (S.get m0) (by rw [Tryz.e44];rfl) rfl ?_
    have S0:=S
    replace S:=S.base
    simp only [BS,LB,Nat.reduceLT,Nat.reduceEqDiff]
    refine iO S (i:=0) rfl rfl rfl rfl rfl ?_
    clear S;intro h S
    simp only [LC]at S
    simp only [BS,LB,Nat.reduceLT,Nat.reduceEqDiff,Tryz.FFb244,S.ld (b:=b6) (o:=0) m2 rfl]
    refine ag (bH (by exact Tryz.u25) (by exact Tryz.e2E) (by decide) (by rfl)) S ?_;clear S;intro h bs S n_bs;simp only [LC,aR,bj,ae,Nat.reduceMul,Nat.reduceAdd,xF,xH,xC,xM]at S
    simp only [BS,LB,Nat.reduceLT,Nat.reduceEqDiff]
    have src:aJ h 1 (.slice (some ⟨bs,0,none⟩) 1 1)=some (1,[.int .i64 xs[i]]):=by simp only [aJ];rw [S.lds (b:=bs) (o:=0) (n:=1*1) m0 (lbt rfl)];rfl
    replace S:=S.drop1
    refine eo (S.grow (j:=0) (m:=1) (new:=[.int .i64 xs[i]]) rfl Tryz.u25 Tryz.e2E (by decide) Tryz.n25 src rfl (by decide) rfl (by rw [dE];simp;omega)) ?_
    clear S src;rintro h vR' S
    simp only [LC]at S
    have fv:Fl vR':=(S.gown _ m0).1.fl
    simp only [BS,LB,Nat.reduceLT,Nat.reduceEqDiff]
    refine aE (aA S (i:=2) rfl Tryz.s25 fv (xI (lbt rfl)) ono) ?_
    clear S;rintro h ⟨S,_⟩
    simp only [LC]at S
    simp only [BS]
    refine eY S (i:=0) rfl ?_
    clear S;intro h S
    simp only [LC]at S
    rw [<-tk]at S
    exact .inl ⟨rfl,_,⟨vR',S0.rebase S,by omega,rfl⟩,S.fr,fun c hc=>(S.key_own hc).symm⟩
 refine gJ (it lb _ _ (fun _ _ h=>h) hJ h2 _ ?_ ⟨_,S',xB _,rfl⟩) fun o rc h' y=>kw y ?_
 . refine⟨S'.ok,S'.fr.n,fun b hb hd=>g2.get b hb,fun b hb h=>?_,fun b hb=>S'.key_lt hb⟩
   rcases S'.key_own hb with h1|h1
   . omega
   . have:=List.mem_singleton.1 h1
     omega
 . rintro F ⟨vR,T,b,rfl⟩
   rw [List.length_map,yg]at T
   subst hX
   refine⟨_,T.get m0,Nat.zero_ne_one,?_⟩
   replace T:=T.dead
   have S:=T
   show Run _ _ _ _ _ _ _ _
   simp only [BS,LB,Nat.reduceLT,Nat.reduceEqDiff,Tryz.FFb244,S.ld (b:=b6) (o:=0) m1 rfl]
   have fv:Fl vR:=(T.gown _ m0).1.fl
   clear S
   refine aE (aA T (i:=1) rfl Tryz.s25 fv (xI (lbt rfl)) ono) ?_
   clear T;rintro h3 ⟨T,_⟩
   simp only [List.set_cons_zero,List.set_cons_succ]at T
   simp only [BS]
   refine gy (jM [db] _ (L:=[(b6,_)]) T.base fun h4 S4=>?_)
   refine⟨rfl,(dC (by decide) (by simp only [aP,an,Nat.reduceEqDiff,reduceIte];exact qW Tryz.a25 (S4.ld (b:=b6) (o:=0) m0 rfl))).2 (dT.2 ⟨gq.trans ((S1.rebase T).rebase S4).gr,(S4.gown _ m0).1.sl rfl (fun _=>rfl) (by decide),fun c hc=>?_⟩)⟩
   rcases(T.gblk m0 hc).1 with h|h
   . omega
   . have:=List.mem_singleton.1 h
     omega
open Tryz in
def Tryz.FFb322:=aj a1<|aj s1<|aj z1<|aj n1<|aj u2<|aj a2<|aj s2<|aj z2<|aj i2<|aj u3<|aj a3<|aj s3<|aj z3<|aj i3<|aj u4<|aj a4<|aj s4<|aj z4<|aj n4<|aj a24<|aj s24<|aj z24<|aj i24<|aj n24<|aj p24<|aj ff24<|aj d24<|aj a30<|aj s30<|aj z30<|aj i30<|aj n30<|aj p30<|aj ff30<|aj d30<|aj u32<|aj a32<|aj s32<|aj z32<|aj q32<|aj i32<|aj n32<|aj a37<|aj s37<|aj z37<|aj n37<|aj u38<|aj a38<|aj s38<|aj z38<|aj q38<|aj i38<|aj n38<|aj u40<|aj a40<|aj s40<|aj z40<|aj q40<|aj n40<|aj u44<|aj a44<|aj s44<|aj z44<|aj i44<|aj u71<|aj a71<|aj s71<|aj z71<|aj q71<|aj n71<|aj a96<|aj s96<|aj z96<|aj i96<|aj n96<|aj p96<|aj ff96<|aj d96<|aj a114<|aj s114<|aj z114<|aj n114<|aj a117<|aj s117<|aj z117<|aj i117<|aj n117<|aj p117<|aj ff117<|aj d117<|aj u146<|aj a146<|aj s146<|aj z146<|aj q146<|aj n146<|aj a148<|aj s148<|aj z148<|aj i148<|aj n148<|aj p148<|aj ff148<|aj d148<|aj u173<|aj a173<|aj s173<|aj z173<|aj q173<|n173
def qp(p:Value)(N nd mk:Nat)(f t:Int):Int:=if isP p=true then iG N nd mk f t else 1
theorem TabO.gr{E:Env}{h h':Hp}{pt:Value}{nd mk:Nat}{gM gN:FuncId}(T:TabO E h pt nd mk gM gN)(g:Gr h h'):TabO E h' pt nd mk gM gN:=⟨T.fl,fun x k=>T.marks x (g.trans k),fun x k=>T.nodes x (g.trans k)⟩
theorem firstC4{p:Value}{N nd mk:Nat}{f t:Int}{g1 g2 g3 g4:FuncId}{a1 a2 a3 a4:Array Value}:kB [⟨g1,a1,isP p,1⟩,⟨g2,a2,decide (0<=f/\f<N),17⟩,⟨g3,a3,decide (0<=t/\t<N),18⟩,⟨g4,a4,decide (0<mk/\nd=N),19⟩]=qp p N nd mk f t:=by
 simp only [kB,qp,iG,decide_eq_true_eq]
 cases isP p with
 |false=>rfl
 | true=>
   simp only [if_true]
   by_cases h1:0<=f/\f<(N:Int)
   . by_cases h2:0<=t/\t<(N:Int)
     . simp only [h1,h2,not_true_eq_false,if_false,and_self,if_true]
     . simp only [h1,h2,not_true_eq_false,not_false_eq_true,if_false,and_self,if_true]
   . simp only [h1,not_false_eq_true,if_false,if_true]
theorem vQ{h0:Hp}(ok:h0.t.Sized h0.n){p pt q0:Value}{N nd mk:Nat}{f t a:Int}(fq:Fl q0)(hN:(∃bp γ nb,p=ptrTo bp/\bT h0 nb (ptrTo bp) γ/\N=γ.nodes)\/p=.pointer none)(T:TabO xt h0 pt nd mk 46 58):
 aZ xt 22 [p,pt,.agg ⟨[q0,.int .i64 f,.int .i64 t,.int .i64 a]⟩] h0 (.int .i64 (qp p N nd mk f t)):=by
 have fp:Fl p:=by rcases hN with⟨_,_,_,rfl,_⟩|rfl<;>exact eG
 have ft:=T.fl
 have S:=Si ok
 refine ac (n:=25) (rs:=[.tmp 6]) rfl Tryz.e22 rfl rfl rfl (lbt rfl) ?_
 simp only [BS,Nat.reduceLT]
 refine ag (cM (by assumption)) S ?_;clear S;intro h b3 S n_b3
 simp only [BS,Nat.reduceLT,Nat.reduceEqDiff,if_false]
 refine ag (cM (by assumption)) S ?_;clear S;intro h b4 S n_b4
 simp only [BS,Nat.reduceLT,Nat.reduceEqDiff,if_false]
 refine ag (bu (by intro x e;cases e)) S ?_;clear S;intro h b5 S n_b5;simp only [ae]at S
 have g0:=S.gr
 have okq:=S.ok
 have r3:=S.ld (b:=b3) (o:=0) m2 rfl
 have r4:=S.ld (b:=b4) (o:=0) m1 rfl
 have r51:=S.ld (b:=b5) (o:=1) m0 rfl
 have r52:=S.ld (b:=b5) (o:=2) m0 rfl
 have q5:=(S.row (b:=b5) m0).lt S.ok
 clear S
 rename Hp=>hq
 have S:=Si okq
 simp only [BS,LB,Nat.reduceLT,Nat.reduceEqDiff]
 refine aw (aC rfl) (q:=16384) (ps:=[(5,9)]) (by kernel_rfl) ?_
 simp only [BS,LB,cls,Nat.reduceLT,Nat.reduceEqDiff,Nat.reduceAdd,Nat.reducePow,Nat.reduceDiv,Nat.reduceMod,Nat.reduceLeDiff,Tryz.FFb322,r51]
 refine dz (node_ok S.ok) ?_
 rintro v1 h ⟨g,x1,rfl,l1⟩
 have e1:leaves _ _ b5=true:=aM g q5
 have k1:=g.n
 replace S:=S.call g
 simp only [BS,LB,cls,Nat.reduceLT,Nat.reduceEqDiff,Nat.reduceAdd,Nat.reducePow,Nat.reduceDiv,Nat.reduceMod,Nat.reduceLeDiff,Tryz.FFb322,g.load r52]
 clear g
 refine dz (node_ok S.ok) ?_
 rintro v2 h ⟨g,x2,rfl,l2⟩
 have e2:leaves _ _ b5=true:=aM g (xD q5 k1)
 replace S:=S.call g
 replace l1:=g.load l1
 simp only [BS,LB,cls,Nat.reduceLT,Nat.reduceEqDiff,Nat.reduceAdd,Nat.reducePow,Nat.reduceDiv,Nat.reduceMod,Nat.reduceLeDiff,Tryz.FFb322]
 have gA:=S.gr
 have okA:=S.ok
 clear S g
 rename Hp=>hA
 have S:=Si okA
 refine dg (bH (by exact Tryz.u173) (by exact Tryz.e117E) (by decide) (by rfl)) S ?_;clear S;intro h bs S n_bs e_bs;simp only [LC,aR,bj,ae,Nat.reduceMul,Nat.reduceAdd,xF,xH,xC,xM]at S
 have gB:=S.gr
 have okB:=S.ok
 have l3':=gB.load (gA.load r3)
 have l4':=gB.load (gA.load r4)
 have l1':=gB.load l1
 have l2':=gB.load l2
 have gT:=(g0.trans gA).trans gB
 simp only [BS,LB,cls,Nat.reduceLT,Nat.reduceEqDiff,Nat.reduceAdd,Nat.reducePow,Nat.reduceDiv,Nat.reduceMod,Nat.reduceLeDiff]
 refine cN (uW okB (rs:=[⟨56,#[ptrTo b3],isP p,1⟩,⟨54,#[ptrTo x1,ptrTo b3],decide (0<=f/\f<N),17⟩,⟨54,#[ptrTo x2,ptrTo b3],decide (0<=t/\t<N),18⟩,⟨57,#[ptrTo b4,ptrTo b3],decide (0<mk/\nd=N),19⟩]) (.inr ⟨bs,0,none,4,rfl,xX _,S.lds (b:=bs) (o:=0) (n:=4*2) m0 (lbt rfl)⟩) (by simp) (fun i hi=>?_)) ?_
 . have hi4:i<4:=hi
   rcases(by omega:i=0\/i=1\/i=2\/i=3)with rfl|rfl|rfl|rfl
   . intro _
     refine net2_ok ?_ l3'
     rcases hN with⟨bp,_,_,rfl,_⟩|rfl
     . exact .inl ⟨bp,rfl⟩
     . exact .inr rfl
   . intro hb
     have h1:isP p=true:=hb 0 (by omega)
     rcases hN with⟨bp,γ,nb,rfl,c,rfl⟩|rfl
     . exact ur (c.gr gT) l1' l3'
     . cases h1
   . intro hb
     have h1:isP p=true:=hb 0 (by omega)
     rcases hN with⟨bp,γ,nb,rfl,c,rfl⟩|rfl
     . exact ur (c.gr gT) l2' l3'
     . cases h1
   . intro hb
     have h1:isP p=true:=hb 0 (by omega)
     rcases hN with⟨bp,γ,nb,rfl,c,rfl⟩|rfl
     . exact tab3_ok (c.gr gT) (T.gr gT) l4' l3'
     . cases h1
 . intro h g
   rw [firstC4]
   replace S:=S.call g
   simp only [BS,LB,cls,ab,Nat.reduceLT,Nat.reduceEqDiff,Nat.reduceAdd,Nat.reducePow,Nat.reduceDiv,Nat.reduceMod,Nat.reduceLeDiff]
   refine⟨by simp only [aX,bg,aS,bz,aV,ne_eq,not_false_eq_true,bE,bR,bC,aW,bU,cL,aP,Nat.reduceLT,Nat.reduceEqDiff,reduceIte,xy,an,bQ e1,bG e1,bQ e2,bG e2],?_⟩
   exact(g0.trans gA).trans S.gr
open Tryz in
def Tryz.FFb446:=aj a1<|aj s1<|aj z1<|aj n1<|aj u2<|aj a2<|aj s2<|aj z2<|aj i2<|aj u3<|aj a3<|aj s3<|aj z3<|aj i3<|aj u4<|aj a4<|aj s4<|aj z4<|aj n4<|aj u25<|aj a25<|aj s25<|aj z25<|aj q25<|aj n25<|aj u38<|aj a38<|aj s38<|aj z38<|aj q38<|aj i38<|aj n38<|aj u40<|aj a40<|aj s40<|aj z40<|aj q40<|aj n40<|aj u71<|aj a71<|aj s71<|aj z71<|aj q71<|aj n71<|aj a96<|aj s96<|aj z96<|aj i96<|aj n96<|aj p96<|aj ff96<|d96
open Tryz in
def Tryz.FFb458:=aj a1<|aj s1<|aj z1<|aj n1<|aj u2<|aj a2<|aj s2<|aj z2<|aj i2<|aj u3<|aj a3<|aj s3<|aj z3<|aj i3<|aj u4<|aj a4<|aj s4<|aj z4<|aj n4<|aj u25<|aj a25<|aj s25<|aj z25<|aj q25<|aj n25<|aj u38<|aj a38<|aj s38<|aj z38<|aj q38<|aj i38<|aj n38<|aj u40<|aj a40<|aj s40<|aj z40<|aj q40<|aj n40<|aj u71<|aj a71<|aj s71<|aj z71<|aj q71<|aj n71<|aj a96<|aj s96<|aj z96<|aj i96<|aj n96<|aj p96<|aj ff96<|d96
open Tryz in
def Tryz.FFb415:=aj a1<|aj s1<|aj z1<|aj n1<|aj u2<|aj a2<|aj s2<|aj z2<|aj i2<|aj u3<|aj a3<|aj s3<|aj z3<|aj i3<|aj u4<|aj a4<|aj s4<|aj z4<|aj n4<|aj u5<|aj a5<|aj s5<|aj z5<|aj i5<|aj u6<|aj a6<|aj s6<|aj z6<|aj i6<|aj a7<|aj s7<|aj z7<|aj i7<|aj n7<|aj p7<|aj ff7<|aj d7<|aj a8<|aj s8<|aj z8<|aj i8<|aj n8<|aj p8<|aj ff8<|aj d8<|aj a24<|aj s24<|aj z24<|aj i24<|aj n24<|aj p24<|aj ff24<|aj d24<|aj u25<|aj a25<|aj s25<|aj z25<|aj q25<|aj n25<|aj a30<|aj s30<|aj z30<|aj i30<|aj n30<|aj p30<|aj ff30<|aj d30<|aj u32<|aj a32<|aj s32<|aj z32<|aj q32<|aj i32<|aj n32<|aj u38<|aj a38<|aj s38<|aj z38<|aj q38<|aj i38<|aj n38<|aj u40<|aj a40<|aj s40<|aj z40<|aj q40<|aj n40<|aj u44<|aj a44<|aj s44<|aj z44<|aj i44<|aj a46<|aj s46<|aj z46<|aj i46<|aj n46<|aj p46<|aj ff46<|aj d46<|aj u47<|aj a47<|aj s47<|aj z47<|aj q47<|aj n47<|aj u55<|aj a55<|aj s55<|aj z55<|aj q55<|aj n55<|aj a57<|aj s57<|aj z57<|aj i57<|aj n57<|aj p57<|aj ff57<|aj d57<|aj u71<|aj a71<|aj s71<|aj z71<|aj q71<|aj n71<|aj a96<|aj s96<|aj z96<|aj i96<|aj n96<|aj p96<|aj ff96<|aj d96<|aj a99<|aj s99<|aj z99<|aj i99<|aj n99<|aj p99<|aj ff99<|aj d99<|aj a104<|aj s104<|aj z104<|aj i104<|aj n104<|aj p104<|aj ff104<|aj d104<|aj u146<|aj a146<|aj s146<|aj z146<|aj q146<|aj n146<|aj a148<|aj s148<|aj z148<|aj i148<|aj n148<|aj p148<|aj ff148<|d148
theorem uY{h0:Hp}(ok:h0.t.Sized h0.n):Ret xt 46 [.pointer none] h0 fun r h'=>Gr h0 h'/\ ∃l:List Int,ay h' 1 (encI .i64) r l/\l.length=0:=by
 have S:=Si ok
 refine ac (n:=10) (rs:=[.tmp 2]) rfl Tryz.e46 rfl rfl rfl (lbt rfl) ?_
 simp only [BS,LB,ab,Nat.reduceLT,Nat.reduceEqDiff,Tryz.FFb446]
 exact⟨S.gr,[],.inl ⟨rfl,rfl⟩,rfl⟩
theorem uP{h0:Hp}(ok:h0.t.Sized h0.n):aZ xt 58 [.pointer none] h0 (.int .i64 ((0:Nat):Int)):=by
 have S:=Si ok
 refine ac (n:=9) (rs:=[.tmp 2]) rfl Tryz.e58 rfl rfl rfl (lbt rfl) ?_
 simp only [BS,LB,ab,Nat.reduceLT,Nat.reduceEqDiff,xN,Tryz.FFb458]
 exact S.gr
def TabQ(h:Hp)(pt:Value)(nd:Nat)(l:List Int)(R Q:Nat->List Int):Prop:=(∃m,TabAt h m pt nd l R Q/\(∀i,i<l.length->(R i).length=nd)/\ ∀i,i<l.length->(Q i).length=nd)\/(pt=.pointer none/\nd=0/\l=[])
theorem TabQ.gr{h h':Hp}{pt:Value}{nd:Nat}{l:List Int}{R Q:Nat->List Int}(t:TabQ h pt nd l R Q)(g:Gr h h'):TabQ h' pt nd l R Q:=t.imp (fun⟨m,a,b⟩=>⟨m,a.gr g,b⟩) (fun h=>h)
theorem TabQ.tabO{h:Hp}{pt:Value}{nd:Nat}{l:List Int}{R Q:Nat->List Int}(t:TabQ h pt nd l R Q)(hl:l.length<1000):TabO xt h pt nd l.length 46 58:=by
 rcases t with⟨m,t,_,_⟩|⟨rfl,rfl,rfl⟩
 . refine⟨by obtain⟨b,_,_,_,rfl,_⟩:=t.ex;exact eG,fun x k=>(j7 k.ok (t.gr k) hl).mono fun r h' ⟨a,b,c⟩=>⟨a,l,b,rfl⟩,fun x k=>mz k.ok (t.gr k)⟩
 . exact⟨eG,fun x k=>uY k.ok,fun x k=>uP k.ok⟩
theorem xi{N nd mk:Nat}{f t:Int}(h:iG N nd mk f t=0):(0<=f/\f<N)/\(0<=t/\t<N)/\0<mk/\nd=N:=by
 unfold iG at h
 split at h
 . cases h
 . split at h
   . cases h
   . split at h
     . rename_i h1 h2 h3;exact⟨by omega,by omega,h3⟩
     . cases h
def ansV(c:Int)(d:Int)(vA vB:Value):Value:=.agg ⟨[.int .i64 c,.int .i64 d,vA,vB]⟩
theorem altRun_ok{h0:Hp}(ok:h0.t.Sized h0.n){bp nb nd:Nat}{γ:Gra}(hγ:Good γ)(hn:bT h0 nb (ptrTo bp) γ){pt q0:Value}{l:List Int}{R Q:Nat->List Int}(T:TabQ h0 pt nd l R Q)(hl:l.length<=16)(fq:Fl q0){f t a:Int}:
 Ret xt 15 [ptrTo bp,pt,.agg ⟨[q0,.int .i64 f,.int .i64 t,.int .i64 a]⟩] h0 fun r h'=>Gr h0 h'/\ ∃c d vA vB vE,r=.tuple #[ansV c d vA vB,vE]/\
  (((iG γ.nodes nd l.length f t≠0\/f=t)/\c=iG γ.nodes nd l.length f t/\d=0/\vA=.slice none 0 0/\vB=.slice none 0 0/\vE=.slice none 0 0)\/
   (iG γ.nodes nd l.length f t=0/\f≠t/\ ∃(s w:Nat) (fd:Fd),f=s/\t=w/\s<γ.nodes/\w<γ.nodes/\nd=γ.nodes/\
     Ends γ.arcs (alF []) (piF ((xx γ.nodes).map fun(v:Nat)=>d9 γ.nodes l.length R Q v w ((actL γ.nodes l.length R Q f t a).map fun(x:Nat)=>(x:Int)))) w (eK (piF ((xx γ.nodes).map fun(v:Nat)=>d9 γ.nodes l.length R Q v w ((actL γ.nodes l.length R Q f t a).map fun(x:Nat)=>(x:Int)))) s) fd/\
     ay h' 4 gm vE fd.ev/\
     ((FAR<=fd.dist/\c=20/\d=0/\vA=.slice none 0 0/\vB=.slice none 0 0)\/
      (fd.dist<FAR/\c=0/\d=(fd.dist:Nat)/\ay h' 1 bI vA fd.arcs/\ay h' 1 bI vB (actL γ.nodes l.length R Q f t a))))):=by
 have S:=Si ok
 have ft:Fl pt:=(T.tabO (by omega)).fl
 refine ac (n:=64) (rs:=[.cell 6 46,.tmp 7]) rfl Tryz.e15 rfl rfl rfl (lbt rfl) ?_
 simp only [BS,Nat.reduceLT]
 refine ag (bu (by intro x e;cases e)) S ?_;clear S;intro h b5 S n_b5;simp only [ae]at S
 simp only [BS,Tryz.FFb415]
 refine ag aD S ?_;clear S;intro h b6 S n_b6
 simp only [BS,LB,Nat.reduceLT,Nat.reduceEqDiff,Tryz.FFb415,xU,xW,xZ,S.lds (b:=b5) (o:=0) (n:=4) m1 (lbt rfl)]
 refine au (vQ S.ok fq (.inl ⟨bp,γ,nb,rfl,hn.gr S.gr,rfl⟩) ((T.gr S.gr).tabO (by omega)) (a:=a) (f:=f) (t:=t)) ?_
 intro h g
 have eW:qp (.pointer (some ⟨bp,0,none⟩)) γ.nodes nd l.length f t=iG γ.nodes nd l.length f t:=rfl
 rw [eW]
 obtain⟨c,hc⟩: ∃c,iG γ.nodes nd l.length f t=c:=⟨_,rfl⟩
 rw [hc]
 replace S:=S.call g;clear g
 by_cases c0:c=0
 . subst c0
   by_cases hft:f=t
   . subst hft
     simp only [BS,LB,Nat.reduceLT,Nat.reduceEqDiff,Nat.reduceAdd,Tryz.FFb415,S.ld (b:=b5) (o:=1) m1 rfl,S.ld (b:=b5) (o:=2) m1 rfl]
     refine aE (S.store (i:=0) rfl xY (by intro x e;cases e) rfl rfl (lbt rfl) ono) ?_
     clear S;rintro h3 ⟨S,mo⟩
     simp only [LC,ae,lay,xR,xS,Nat.reduceAdd]at S
     simp only [BS,ab]
     refine(dC (by decide) (by simp only [aP,an,Nat.reduceEqDiff,reduceIte];exact cd yy xY (S.lds (b:=b6) (o:=0) (n:=4) m0 (lbt rfl)))).2 ?_
     refine(iL (by decide)).2 (dT.2 ?_)
     exact⟨S.gr,_,_,_,_,_,rfl,.inl ⟨.inr trivial,rfl,rfl,rfl,rfl,rfl⟩⟩
   . obtain⟨hs0,ht0,hmk,hnd⟩:=xi hc
     obtain⟨s,rfl⟩:=xJ hs0.1
     obtain⟨w,rfl⟩:=xJ ht0.1
     have hs:s<γ.nodes:=by omega
     have hw:w<γ.nodes:=by omega
     have hsw:s≠w:=fun e=>hft (by rw [e])
     subst hnd
     obtain⟨m,t,lR,lQ⟩: ∃m,TabAt h0 m pt γ.nodes l R Q/\(∀i,i<l.length->(R i).length=γ.nodes)/\ ∀i,i<l.length->(Q i).length=γ.nodes:=by
      rcases T with h|⟨_,_,rfl⟩
      . exact h
      . simp at hmk
     simp only [BS,LB,Nat.reduceLT,Nat.reduceEqDiff,Tryz.FFb415,hft,S.ld (b:=b5) (o:=1) m1 rfl,S.ld (b:=b5) (o:=2) m1 rfl,S.ld (b:=b5) (o:=3) m1 rfl]
     have k6:=(S.row (b:=b6) m0).lt S.ok
     refine step_ret (qa S.ok (t.gr S.gr) lR lQ hl) ?_
     rintro vB h ⟨g,sB,nB⟩
     replace S:=S.call g;clear g
     have la:(actL γ.nodes l.length R Q s w a).length<=16:=by unfold actL;rw [xK];omega
     have R5:=S.row (b:=b5) m1
     have R6:=S.row (b:=b6) m0
     have S0:=S
     have gV:=S.gr
     have okV:=S.ok
     have l51:=R5.load1 (o:=1) rfl
     have l52:=R5.load1 (o:=2) rfl
     have p5:=R5.lt okV
     have f1:=hγ.n2
     simp only [BS,LB,Nat.reduceLT,Nat.reduceEqDiff]
     clear S
     have S:=Si okV
     rename Hp=>hV
     refine aw (oz (ord:=[15,0,1,2,3,4,5,6,7,8,9,10,11,12,13,14,16,17]) rfl rfl (by simp only [fk,reix,fo,List.getElem?_cons_zero,List.getElem?_cons_succ,List.map_toArray,yt,yx,Nat.reduceBEq,cond_true,cond_false];exact rfl)) (q:=1) (ps:=[(0,12),(5,10),(3,10),(0,10)]) (by kernel_rfl) ?_
     simp only [BS,LB,cls,Nat.reducePow,Nat.reduceDiv,Nat.reduceMod,Nat.reduceLeDiff,Tryz.FFb415]
     refine dg aD S ?_;clear S;intro h b10 S n_b10 e_b10
     have p10:=S.fr.n
     have gB:=S.gr
     have r10:=S.row (b:=b10) m0
     have q10:=r10.lt S.ok
     simp only [BS,LB,cls,Nat.reduceLT,Nat.reduceEqDiff,Nat.reduceAdd,Nat.reducePow,Nat.reduceDiv,Nat.reduceMod,Nat.reduceLeDiff,Tryz.FFb415,gB.load l51,gB.load l52]
     refine dz (bPi_ok S.ok ((t.gr gV).gr gB) lR lQ (by omega) (by omega) (rj (sB.gr gB)) (by rw [List.length_map];omega) hw) ?_
     rintro vP h ⟨g,sP,nP⟩
     have e1:leaves _ _ b5=true:=aM g (xD p5 p10)
     have e2:leaves _ _ b10=true:=aM g q10
     have kq:=g.n
     replace S:=S.call g;clear g
     simp only [BS,LB,cls,Nat.reduceLT,Nat.reduceEqDiff,Nat.reduceAdd,Nat.reducePow,Nat.reduceDiv,Nat.reduceMod,Nat.reduceLeDiff,Tryz.FFb415,sP.fl]
     refine dz (xq S.ok hγ ((hn.gr gV).gr S.gr) hs hw (als:=[]) (.inl ⟨rfl,rfl⟩) (.inl rfl) sP (.inr (by simp))) ?_
     rintro r h ⟨g,v,fd,rfl,⟨xA,xE,rfl,G1,G2,d1,d2⟩,he⟩
     have e3:leaves _ _ b5=true:=aM g (xD p5 (xz p10 kq))
     have e4:leaves _ _ b10=true:=aM g (xD q10 kq)
     have y1:Fl xA:=G1.fl
     have y2:Fl xE:=G2.fl
     replace S:=S.call g
     simp only [BS,LB,cls,Nat.reduceLT,Nat.reduceEqDiff,Nat.reduceAdd,Nat.reducePow,Nat.reduceDiv,Nat.reduceMod,Nat.reduceLeDiff]
     refine df (S.store (i:=0) rfl Tryz.s99 (by intro x e;cases e) rfl (by simp only [ae,yb,yh,y1.2.1,y2.2.1,xy];rfl) (lbt rfl) ono) ?_
     have okG:=S.ok
     have b10x: ∀c,av xA c\/av xE c->c≠b10:=fun c hc e=>by
      have:=S.fr.n
      have h1:_<=c:=hc.elim (fun h=>(d1 c h).1) (fun h=>d2 c h)
      omega
     clear S;rintro h3 ⟨S,mo⟩
     simp only [LC,ae,lay,xR,xS,Nat.reduceAdd]at S
     simp only [BS,LB,cls,Nat.reduceLT,Nat.reduceEqDiff,Nat.reduceAdd,Nat.reducePow,Nat.reduceDiv,Nat.reduceMod,Nat.reduceLeDiff,Tryz.FFb415]
     refine⟨by simp only [aX,bg,aS,bz,aV,ne_eq,not_false_eq_true,bE,bR,bC,aW,bU,cL,aP,Nat.reduceLT,Nat.reduceEqDiff,reduceIte,xy,an,kZ,bQ e1,bG e1,bQ e2,bG e2,bQ e3,bG e3,bQ e4,bG e4,<-e_b10],?_⟩
     have r10:=S.row (b:=b10) m0
     have j0:=r10.load1 (o:=0) rfl
     have j1:=r10.load1 (o:=1) rfl
     have j2:=r10.load1 (o:=2) rfl
     have n10:b6≠b10:=fun e=>by have:=(S0.row (b:=b6) m0).lt okV;omega
     have G1':ay h3 1 bI xA fd.arcs:=(G1.sl rfl dG (by decide)).mo mo (fun c hc e=>b10x c (.inl hc) e)
     have G2':ay h3 4 gm xE fd.ev:=(G2.sl rfl pV (by decide)).mo mo (fun c hc e=>b10x c (.inr hc) e)
     have sB':=sB.gr S.gr
     have g3:=S.gr
     have S1:=S0.call S.gr
     clear S
     have S:=S1
     clear S1
     have far:=g8
     by_cases hd:fd.dist<FAR
     . have hd': ¬(72057594037927936:Int)<=(fd.dist:Int):=by omega
       simp only [BS,LB,Nat.reduceLT,Nat.reduceEqDiff,j0,hd']
       refine aw (aC rfl) (q:=0) (ps:=[(7,8)]) (by kernel_rfl) ?_
       simp only [BS,LB,cls,Nat.reduceLT,Nat.reduceEqDiff,Nat.reduceAdd,Nat.reducePow,Nat.reduceDiv,Nat.reduceMod,Nat.reduceLeDiff,Tryz.FFb415,j0,j1,j2,y1,sB.fl]
       refine df (S.store (i:=0) rfl xY (by intro x e;cases e) rfl (by simp only [ae,yb,yh,y1.2.1,y2.2.1,sB.fl.2.1,xy];rfl) (lbt rfl) ono) ?_
       clear S;rintro h4 ⟨S,mo4⟩
       simp only [LC,ae,lay,xR,xS,Nat.reduceAdd]at S
       simp only [BS,LB,cls,ab,Nat.reduceLT,Nat.reduceEqDiff,Nat.reduceAdd,Nat.reducePow,Nat.reduceDiv,Nat.reduceMod,Nat.reduceLeDiff]
       refine⟨by simp only [aX,bg,aS,bz,aV,ne_eq,not_false_eq_true,bE,bR,bC,aW,bU,cL,aP,Nat.reduceLT,Nat.reduceEqDiff,reduceIte,xy,an,kZ,ii n10,ii n10.symm],?_⟩
       refine(dC (by decide) (by simp only [aP,an,Nat.reduceEqDiff,reduceIte];exact cd yy xY (S.lds (b:=b6) (o:=0) (n:=4) m0 (lbt rfl)))).2 ?_
       refine(iL (by decide)).2 (dT.2 ?_)
       have zE:ay h4 4 gm xE fd.ev:=G2'.mo mo4 (fun c hc e=>by have:=d2 c hc;have:=R6.lt okV;omega)
       have zA:ay h4 1 bI xA fd.arcs:=G1'.mo mo4 (fun c hc e=>by have:=(d1 c hc).1;have:=R6.lt okV;omega)
       have zB:=sB'.mo mo4 (fun c hc e=>by have:=nB c hc;omega)
       exact⟨S.gr,_,_,_,_,_,rfl,.inr ⟨hft,s,w,fd,rfl,rfl,hs,hw,he.resolve_left (fun h=>hsw h.1)|>.2,zE,.inr ⟨hd,rfl,rfl,zA,zB⟩⟩⟩
     . have hd':(72057594037927936:Int)<=(fd.dist:Int):=by omega
       simp only [BS,LB,Nat.reduceLT,Nat.reduceEqDiff,j0,hd']
       refine aw (aC rfl) (q:=0) (ps:=[(2,3)]) (by kernel_rfl) ?_
       simp only [BS,LB,cls,Nat.reduceLT,Nat.reduceEqDiff,Nat.reduceAdd,Nat.reducePow,Nat.reduceDiv,Nat.reduceMod,Nat.reduceLeDiff,Tryz.FFb415,j2]
       refine df (S.store (i:=0) rfl xY (by intro x e;cases e) rfl (by simp only [ae,yb,yh,y1.2.1,y2.2.1,xy];rfl) (lbt rfl) ono) ?_
       clear S;rintro h4 ⟨S,mo4⟩
       simp only [LC,ae,lay,xR,xS,Nat.reduceAdd]at S
       simp only [BS,LB,cls,ab,Nat.reduceLT,Nat.reduceEqDiff,Nat.reduceAdd,Nat.reducePow,Nat.reduceDiv,Nat.reduceMod,Nat.reduceLeDiff]
       refine⟨by simp only [aX,bg,aS,bz,aV,ne_eq,not_false_eq_true,bE,bR,bC,aW,bU,cL,aP,Nat.reduceLT,Nat.reduceEqDiff,reduceIte,xy,an,kZ,ii n10,ii n10.symm],?_⟩
       refine(dC (by decide) (by simp only [aP,an,Nat.reduceEqDiff,reduceIte];exact cd yy xY (S.lds (b:=b6) (o:=0) (n:=4) m0 (lbt rfl)))).2 ?_
       refine(iL (by decide)).2 (dT.2 ?_)
       have zE:ay h4 4 gm xE fd.ev:=G2'.mo mo4 (fun c hc e=>by have:=d2 c hc;have:=R6.lt okV;omega)
       exact⟨S.gr,_,_,_,_,_,rfl,.inr ⟨hft,s,w,fd,rfl,rfl,hs,hw,he.resolve_left (fun h=>hsw h.1)|>.2,zE,.inl ⟨by omega,rfl,rfl,rfl,rfl⟩⟩⟩
 . simp only [BS,LB,Nat.reduceLT,Nat.reduceEqDiff,Nat.reduceAdd,Tryz.FFb415,c0]
   refine aE (S.store (i:=0) rfl xY (by intro x e;cases e) rfl rfl (lbt rfl) ono) ?_
   clear S;rintro h3 ⟨S,mo⟩
   simp only [LC,ae,lay,xR,xS,Nat.reduceAdd]at S
   simp only [BS,ab]
   refine(dC (by decide) (by simp only [aP,an,Nat.reduceEqDiff,reduceIte];exact cd yy xY (S.lds (b:=b6) (o:=0) (n:=4) m0 (lbt rfl)))).2 ?_
   refine(iL (by decide)).2 (dT.2 ?_)
   exact⟨S.gr,_,_,_,_,_,rfl,.inl ⟨.inl c0,rfl,rfl,rfl,rfl,rfl⟩⟩
open Tryz in
def Tryz.FFb58:=aj a1<|aj s1<|aj z1<|aj n1<|aj u2<|aj a2<|aj s2<|aj z2<|aj i2<|aj u3<|aj a3<|aj s3<|aj z3<|aj i3<|aj u5<|aj a5<|aj s5<|aj z5<|aj i5<|aj u22<|aj a22<|aj s22<|aj z22<|aj q22<|aj n22<|aj a24<|aj s24<|aj z24<|aj i24<|aj n24<|aj p24<|aj ff24<|aj d24<|aj u25<|aj a25<|aj s25<|aj z25<|aj q25<|aj n25<|aj a27<|aj s27<|aj z27<|aj i27<|aj n27<|aj p27<|aj ff27<|aj d27<|aj u28<|aj a28<|aj s28<|aj z28<|aj q28<|aj n28<|aj a30<|aj s30<|aj z30<|aj i30<|aj n30<|aj p30<|aj ff30<|aj d30<|aj a59<|aj s59<|aj z59<|aj i59<|aj n59<|aj p59<|aj ff59<|aj d59<|aj u61<|aj a61<|aj s61<|aj z61<|aj q61<|aj i61<|aj n61<|aj a63<|aj s63<|aj z63<|aj i63<|aj n63<|aj p63<|aj ff63<|d63
open Tryz in
def Tryz.FFb512:=aj a1<|aj s1<|aj z1<|aj n1<|aj u2<|aj a2<|aj s2<|aj z2<|aj i2<|aj u3<|aj a3<|aj s3<|aj z3<|aj i3<|aj u4<|aj a4<|aj s4<|aj z4<|aj n4<|aj u5<|aj a5<|aj s5<|aj z5<|aj i5<|aj u6<|aj a6<|aj s6<|aj z6<|aj i6<|aj a7<|aj s7<|aj z7<|aj i7<|aj n7<|aj p7<|aj ff7<|aj d7<|aj a8<|aj s8<|aj z8<|aj i8<|aj n8<|aj p8<|aj ff8<|aj d8<|aj u9<|aj a9<|aj s9<|aj z9<|aj n9<|aj u10<|aj a10<|aj s10<|aj z10<|aj n10<|aj u11<|aj a11<|aj s11<|aj z11<|aj n11<|aj u12<|aj a12<|aj s12<|aj z12<|aj i12<|aj a13<|aj s13<|aj z13<|aj i13<|aj n13<|aj p13<|aj ff13<|aj d13<|aj a14<|aj s14<|aj z14<|aj i14<|aj n14<|aj p14<|aj ff14<|aj d14<|aj u15<|aj a15<|aj s15<|aj z15<|aj q15<|aj i15<|aj n15<|aj u17<|aj a17<|aj s17<|aj z17<|aj q17<|aj i17<|aj n17<|aj u22<|aj a22<|aj s22<|aj z22<|aj q22<|aj n22<|aj a24<|aj s24<|aj z24<|aj i24<|aj n24<|aj p24<|aj ff24<|aj d24<|aj u25<|aj a25<|aj s25<|aj z25<|aj q25<|aj n25<|aj a27<|aj s27<|aj z27<|aj i27<|aj n27<|aj p27<|aj ff27<|aj d27<|aj u40<|aj a40<|aj s40<|aj z40<|aj q40<|aj n40<|aj a274<|aj s274<|aj z274<|aj i274<|aj n274<|aj p274<|aj ff274<|d274
theorem wL{h0:Hp}(ok:h0.t.Sized h0.n){vB vM vN:Value}{w0 w1 w2 w3:Int}{B:List Int}(hB:SlW h0 .u8 vB B)(fM:Fl vM)(fN:Fl vN):
 Ret xt 8 [.agg ⟨[vB,vM,.int .i64 w0,.int .i64 w1,.int .i64 w2,.int .i64 w3,vN]⟩] h0 fun r h'=>Gr h0 h'/\ ∃γ vx vy va,r=gf γ vx vy va/\Good γ/\cm h' vx vy va γ/\ ∀c,(av vx c\/av vy c\/av va c)->h0.n<=c:=by
 have S:=Si ok
 have mn:min (B.length:Int) 60=((min B.length 60:Nat):Int):=by omega
 obtain⟨vB',hsl,sB,bB⟩:=hB.low (kd':=.i64) (n:=min B.length 60) Tryz.u22 Tryz.s5 (Nat.min_le_left _ _)
 have fB:=hB.sl.fl
 have fB':=sB.fl
 refine ac (n:=15) (rs:=[.cell 2 30]) rfl Tryz.e8 rfl rfl rfl (lbt rfl) ?_
 simp only [BS,Nat.reduceLT]
 refine ag (bu (by intro x e;cases e)) S ?_;clear S;intro h b1 S n_b1;simp only [ae]at S
 simp only [BS,Tryz.FFb58]
 refine ag aD S ?_;clear S;intro h b2 S n_b2
 simp only [BS,LB,Nat.reduceLT,Nat.reduceEqDiff,Nat.reduceAdd,yk,yl,Tryz.FFb58,hB.sl.lenq,mn,hsl,fB',S.ld (b:=b1) (o:=0) m1 rfl]
 refine ag (bu (by intro x e;cases e)) S ?_;clear S;intro h bd S n_bd;simp only [ae]at S
 have hB':ay h 1 (encI .u8) vB' (B.take (min B.length 60)):=sB.gr S.gr
 have nB: ¬av vB' bd:=fun hc=>by have:=sB.lt ok hc;omega
 have lb':(B.take (min B.length 60)).length<1000000:=by rw [xK];omega
 simp only [BS,LB,Nat.reduceLT,Nat.reduceEqDiff]
 have k0:=S.fr.n
 have ap:=S.apart
 simp only [keys,yt,yx,List.filterMap_nil,List.append_nil,List.nodup_cons,yu,List.not_mem_nil,or_false,not_or]at ap
 have lt2:=(S.row (b:=b2) m1).lt S.ok
 refine step_ret (raw_ok S.ok (S.row m0) ⟨hB',nB,lb',by omega⟩) ?_
 rintro v h ⟨f,γ,vx,vy,va,rfl,hγ,ga,hz⟩
 replace S:=S.drop1.step f (fun c hc=>by subst hc;exact .inr n_bd) (fun c hc e=>by simp [keys]at hc;omega)
 have fx:=ga.X.fl
 have fy:=ga.Y.fl
 have fa:=ga.A.fl
 simp only [BS,LB,Nat.reduceLT,Nat.reduceEqDiff,gf]
 refine aE (S.store (i:=0) rfl Tryz.s30 (by intro x e;cases e) rfl (by simp only [ae,yb,yh,fx.2.1,fy.2.1,fa.2.1,xy];rfl) (lbt rfl) ono) ?_
 clear S;rintro h ⟨S,mo⟩
 simp only [LC,ae,lay,xR,xS,Nat.reduceAdd]at S
 simp only [BS,ab]
 refine(dC (by decide) (by simp only [aP,an,Nat.reduceEqDiff,reduceIte];exact cd Tryz.a30 Tryz.s30 (S.lds (b:=b2) (o:=0) (n:=4) m0 (lbt rfl)))).2 (dT.2 ?_)
 exact⟨S.gr,γ,vx,vy,va,rfl,hγ,ga.mo mo (fun c hc e=>by have:=hz c hc;omega),fun c hc=>xz k0 (hz c hc)⟩
theorem places_ok{h0:Hp}(ok:h0.t.Sized h0.n){vB vM vN:Value}{w0 w1 w2 w3:Int}{ms:List Int}(fB:Fl vB)(hM:SlW h0 .u8 vM ms)(hMr: ∀x∈ms,0<=x/\x<=255)(hml:ms.length<=9223372036854775807)(fN:Fl vN){N:Nat}(n1:1<=N)(n2:N<=100):
 Ret xt 12 [.agg ⟨[vB,vM,.int .i64 w0,.int .i64 w1,.int .i64 w2,.int .i64 w3,vN]⟩,.int .i64 N] h0 fun r h'=>Gr h0 h'/\ ∃l,ay h' 1 (encI .i64) r l/\gk N l/\1<=l.length/\l.length<=6/\ ∀c,av r c->h0.n<=c:=by
 have S:=Si ok
 have fM:=hM.sl.fl
 have nz:(N:Int)≠0:=by omega
 refine ac (n:=58) (rs:=[.tmp 4]) rfl Tryz.e12 rfl rfl rfl (lbt rfl) ?_
 simp only [BS,Nat.reduceLT]
 refine ag (bu (by intro x e;cases e)) S ?_;clear S;intro h b2 S n_b2;simp only [ae]at S
 have l1:=(S.row (b:=b2) m0).load1 (o:=1) rfl
 have g0:=S.gr
 have okF:=S.ok
 have kF:=S.fr.n
 clear S
 rename Hp=>hF
 have S:=Si okF
 replace S:=S.nilG (k:=1)
 have slM:=hM.sl.gr g0
 simp only [BS]
 refine aT (fun(i:Nat) ρ h=>i<=ms.length/\ ∃(vR:Value) (l:List Int),St NoM hF h [] [(vR,1,ints l)]/\gk N l/\l.length<=6/\ρ 1=.int .i64 N/\ρ 2=ptrTo b2/\ρ 5=vR/\ρ 6=.int .i64 i) (fun i=>ms.length-i) ?_ 0 _ _ ?_
 . clear S
   intro i ih ρ h ⟨hi,vR,l,S,hl,hl6,r1,r2,r5,r6⟩
   have sR:ay h 1 (encI .i64) vR l:=(S.gown _ m0).1.sl rfl (fun _=>rfl) (by decide)
   have l1':=S.old l1 (fun h=>h)
   by_cases hgo:i<ms.length/\l.length<6
   . obtain ⟨hlt,hlt6⟩:=hgo
     have c6:(l.length:Int)<6:=by omega
     have w:ar .i64 ((i:Int)+1)=((i+1:Nat):Int):=by rw [wrap64]<;>omega
     obtain⟨c,o,hidx,hld⟩:=(slM.gr S.gr).ix (kd:=.i64) (cZ .u8) hlt
     have hx:=hMr _ (xP hlt)
     obtain⟨x,ex⟩: ∃x:Nat,ms[i]=x:=⟨ms[i].toNat,by omega⟩
     rw [ex]at hld hx
     have wc:ar .i64 (x:Int)=(x:Int):=by rw [wrap64]<;>omega
     have tm:(x:Int).tmod (N:Int)=((x%N:Nat):Int):=by rw [yc (by omega)];exact(Int.natCast_emod _ _).symm
     have hmod:x%N<N:=Nat.mod_lt _ (by omega)
     simp only [BS,LB,iP,bS,iM,Nat.reduceLT,Nat.reduceEqDiff,Tryz.FFb512,r1,r2,r5,r6,l1',hM.sl.lenq,sR.lenq,aH,hlt,c6,hidx,hld,encI,wc,o6 nz,tm]
     generalize x%N=v at hmod
     have gI:=S.gr
     have S0:=S
     refine aT (fun(k:Nat) ρ h'=>k<=l.length/\h'=h/\ρ 1=.int .i64 N/\ρ 2=ptrTo b2/\ρ 5=vR/\ρ 6=.int .i64 i/\ρ 7=.int .i64 v/\ρ 8=.bool (decide ((v:Int)∈l.take k))/\ρ 9=.int .i64 k) (fun k=>l.length-k) ?_ 0 _ _ ?_
     . clear r1 r2 r5 r6
       rintro k ihk ρ h' ⟨hk,rfl,r1,r2,r5,r6,r7,r8,r9⟩
       have wk:ar .i64 ((k:Int)+1)=((k+1:Nat):Int):=by rw [wrap64]<;>omega
       by_cases hkt:k<l.length
       . have tk:l.take (k+1)=l.take k++[l[k]]:=xG hkt
         by_cases hm:(v:Int)∈l.take k
         . rw [decide_eq_true hm]at r8
           have m1':(v:Int)∈l.take (k+1):=by rw [tk];exact List.mem_append_left _ hm
           simp only [BS,LB,Nat.reduceLT,Nat.reduceEqDiff,Tryz.FFb512,r5,r8,r9,sR.lenq,aH,hkt,wk]
           exact ihk (k+1) _ _ (by omega) ⟨by omega,rfl,by simp [aa,r1],by simp [aa,r2,an],by simp [aa,r5],by simp [aa,r6],by simp [aa,r7],by simp [aa,m1'],by simp [aa]⟩
         . rw [decide_eq_false hm]at r8
           obtain⟨c1,o1,i1,y1⟩:=sR.ix (kd:=.i64) (cZ .i64) hkt
           by_cases he:l[k]=(v:Int)
           . have m1':(v:Int)∈l.take (k+1):=by rw [tk,he];exact yo _ (List.mem_singleton.2 rfl)
             simp only [BS,LB,Nat.reduceLT,Nat.reduceEqDiff,Tryz.FFb512,r5,r7,r8,r9,sR.lenq,aH,hkt,wk,i1,y1,encI,he]
             exact ihk (k+1) _ _ (by omega) ⟨by omega,rfl,by simp [aa,r1],by simp [aa,r2,an],by simp [aa,r5],by simp [aa,r6],by simp [aa,r7],by simp [aa,m1'],by simp [aa]⟩
           . have m2': ¬(v:Int)∈l.take (k+1):=by
              rw [tk]
              intro h
              rcases List.mem_append.1 h with h|h
              . exact hm h
              . exact he (List.mem_singleton.1 h).symm
             simp only [BS,LB,Nat.reduceLT,Nat.reduceEqDiff,Tryz.FFb512,r5,r7,r8,r9,sR.lenq,aH,hkt,wk,i1,y1,encI,he]
             exact ihk (k+1) _ _ (by omega) ⟨by omega,rfl,by simp [aa,r1],by simp [aa,r2,an],by simp [aa,r5],by simp [aa,r6],by simp [aa,r7],by simp [aa,m2'],by simp [aa]⟩
       . have ek:k=l.length:=by omega
         subst ek
         rw [yg]at r8
         by_cases hm:(v:Int)∈l
         . rw [decide_eq_true hm]at r8
           simp only [BS,LB,Nat.reduceLT,Nat.reduceEqDiff,Tryz.FFb512,r5,r6,r8,r9,sR.lenq,aH,hkt,w]
           exact ih (i+1) _ _ (by omega) ⟨by omega,vR,l,S,hl,hl6,by simp [aa,r1],by simp [aa,r2,an],by simp [aa,r5],by simp [aa]⟩
         . rw [decide_eq_false hm]at r8
           simp only [BS,LB,Nat.reduceLT,Nat.reduceEqDiff,Tryz.FFb512,r5,r6,r7,r8,r9,sR.lenq,aH,hkt]
           refine ag (bH (by exact xL) (by exact xQ) (by decide) (by rfl)) S ?_;clear S;intro h bt S n_bt;simp only [LC,aR,bj,ae,Nat.reduceMul,Nat.reduceAdd,xF,xH,xC,xM]at S
           simp only [BS,LB,Nat.reduceLT,Nat.reduceEqDiff]
           have src:aJ h 1 (.slice (some ⟨bt,0,none⟩) 1 1)=some (1,ints [(v:Int)]):=by simp only [aJ];rw [S.lds (b:=bt) (o:=0) (n:=1*1) m0 (lbt rfl)];rfl
           replace S:=S.drop1
           refine eo (S.grow (j:=0) (m:=1) (new:=ints [(v:Int)]) rfl xL xQ (by decide) yr src rfl (by decide) rfl (by rw [dE,dE];simp;omega)) ?_
           clear S src;rintro h vR' S
           simp only [LC]at S
           rw [<-mX]at S
           simp only [BS,LB,Nat.reduceLT,Nat.reduceEqDiff,r6,w]
           exact ih (i+1) _ _ (by omega) ⟨by omega,vR',l++[(v:Int)],S,hl.push (by omega) (by omega) (by omega) hm,by simp;omega,by simp [aa,r1],by simp [aa,r2,an],by simp [aa],by simp [aa]⟩
     . exact⟨xB _,rfl,by simp [aa,r1],by simp [aa,r2,an],by simp [aa,r5],by simp [aa,r6],by simp [aa],by simp [aa],by simp [aa]⟩
   . have nR: ∀c,av vR c->h0.n<=c:=fun c hb=>xz kF (((S.gblk m0 hb).1).elim (fun h=>h) (fun h=>h.elim))
     by_cases hlt:i<ms.length
     . have c6: ¬(l.length:Int)<6:=by omega
       have c0: ¬(l.length:Int)=0:=by omega
       simp only [BS,LB,ab,Nat.reduceLT,Nat.reduceEqDiff,Tryz.FFb512,r2,r5,r6,l1',hM.sl.lenq,sR.lenq,aH,hlt,c6,c0]
       exact⟨g0.trans S.gr,l,sR,hl,by omega,hl6,nR⟩
     . by_cases hz:l.length=0
       . have c0:(l.length:Int)=0:=by omega
         have eq:ar .i64 ((N:Int).tdiv 2)=((N/2:Nat):Int):=by
          rw [Int.tdiv_eq_ediv_of_nonneg (by omega),wrap64]<;>omega
         simp only [BS,LB,Nat.reduceLT,Nat.reduceEqDiff,Tryz.FFb512,r1,r2,r5,r6,l1',hM.sl.lenq,sR.lenq,aH,hlt,c0,o5 (n:=2) (by decide),eq]
         refine ag (bH (by exact xL) (by exact xQ) (by decide) (by rfl)) S ?_;clear S;intro h bt S n_bt;simp only [LC,aR,bj,ae,Nat.reduceMul,Nat.reduceAdd,xF,xH,xC,xM]at S
         simp only [BS,LB,ab,Nat.reduceLT,Nat.reduceEqDiff]
         refine⟨g0.trans S.gr,[((N/2:Nat):Int)],.inr ⟨bt,0,none,1,rfl,xX _,S.lds (b:=bt) (o:=0) (n:=1*1) m0 (lbt rfl)⟩,(ud N).push (by simp) (by omega) (by omega) (by simp),by simp,by simp,fun c hb=>?_⟩
         have e:c=bt:=hb.symm
         omega
       . have c0: ¬(l.length:Int)=0:=by omega
         simp only [BS,LB,ab,Nat.reduceLT,Nat.reduceEqDiff,Tryz.FFb512,r2,r5,r6,l1',hM.sl.lenq,sR.lenq,aH,hlt,c0]
         exact⟨g0.trans S.gr,l,sR,hl,by omega,hl6,nR⟩
 . exact⟨xB _,_,[],S,ud _,xB _,by simp [aa,cg],by simp [aa,an],by simp [aa],by simp [aa]⟩
theorem exTo{h0:Hp}(ok:h0.t.Sized h0.n){γ:Gra}(hγ:Good γ){pn:Value}{nb:Nat}(hn:bT h0 nb pn γ){s:Nat}(hs:s<γ.nodes)(v:Nat):IsD (seen γ.arcs Arc.t Arc.s) s v (dOf (seen γ.arcs Arc.t Arc.s) s v):=by
 obtain⟨_,_,_,_,_,_,_,D,_,_,_,_,_,_,_,hD,_⟩:=rf ok hγ hn hs
 exact(dOf_is (hD v)).2
theorem exFrom{h0:Hp}(ok:h0.t.Sized h0.n){γ:Gra}(hγ:Good γ){pn:Value}{nb:Nat}(hn:bT h0 nb pn γ){s:Nat}(hs:s<γ.nodes)(v:Nat):IsD (seen γ.arcs Arc.s Arc.t) s v (dOf (seen γ.arcs Arc.s Arc.t) s v):=by
 obtain⟨_,_,_,_,_,_,_,D,_,_,_,_,_,_,_,hD,_⟩:=oq ok hγ hn hs
 exact(dOf_is (hD v)).2
theorem jn(B:List Arc)(N s:Nat):(iU B N s).length=N:=by simp [iU]
theorem rL{B:List Arc}{N s v:Nat}(hv:v<N):(iU B N s).getD v 0=(dOf B s v:Nat):=by simp [iU,xu,hv]
theorem rP{γ:Gra}{l:List Int}{i v:Nat}(hi:i<l.length)(hv:v<γ.nodes):ep γ.nodes l.length (toR γ l) i v=(dOf (seen γ.arcs Arc.t Arc.s) (l.getD i 0).toNat v:Nat):=by
 unfold ep
 rw [if_pos ⟨by omega,by omega,by omega,by omega⟩,xO,xO]
 exact rL hv
theorem rM{γ:Gra}{l:List Int}{i v:Nat}(hi:i<l.length)(hv:v<γ.nodes):ep γ.nodes l.length (frR γ l) i v=(dOf (seen γ.arcs Arc.s Arc.t) (l.getD i 0).toNat v:Nat):=by
 unfold ep
 rw [if_pos ⟨by omega,by omega,by omega,by omega⟩,xO,xO]
 exact rL hv
theorem ny{a b:Nat}(ha:a<=72057594037927936)(hb:b<=72057594037927936):jS (a:Int) (b:Int)=if b<72057594037927936 then(if a<72057594037927936 then max 0 ((a:Int)-b)else 72057594037927936)else 0:=by
 unfold jS wy
 repeat' split
 all_goals omega
theorem seen_back(A:List Arc): ∀a∈seen A Arc.s Arc.t,∃b∈seen A Arc.t Arc.s,b.s=a.t/\b.t=a.s/\b.w=a.w:=by
 intro a ha
 obtain⟨i,hi,e⟩:=tZ ha
 have e1:=(oL (fs:=Arc.s) (ft:=Arc.t) hi).1
 obtain⟨e2,e3⟩:=oL (fs:=Arc.t) (ft:=Arc.s) hi
 refine⟨_,e3,?_⟩
 rw [e2,<-e,e1]
 exact⟨rfl,rfl,rfl⟩
theorem lW(γ:Gra):seen γ.arcs Arc.s Arc.t=γ.arcs:=by
 unfold seen
 exact(yv (fun a _=>rfl)).trans (List.map_id _)
end Go.Ab
end
section
namespace Go.Ab
section
variable{key:Nat->Int}{n m:Nat}
theorem gU{α:Type}{f:α->Int}{d:Int}: ∀(l:List α) (b:Int),l.foldl (fun b i=>max b (f i)) b<=d↔b<=d/\ ∀i∈l,f i<=d
 | [],b=>by simp
 | x::l,b=>by
   rw [List.foldl_cons,gU l]
   simp only [yu,forall_eq_or_imp]
   constructor
   . rintro⟨h1,h2⟩;exact⟨by omega,by omega,h2⟩
   . rintro⟨h1,h2,h3⟩;exact⟨by omega,h3⟩
end
end Go.Ab

end
section
namespace Go.Ab
inductive ks(A:List Arc)(s:Nat):List Nat->Nat->Nat->Prop where
 |nil:ks A s [] s 0
 |snoc {l:List Nat} {w a:Nat}:ks A s l (A.getD a default).s w->a<A.length->ks A s (l++[a]) (A.getD a default).t (w+(A.getD a default).w)
def endA(A:List Arc)(s:Nat)(l:List Nat)(i:Nat):Nat:=if i=0 then s else(A.getD (l.getD (i-1) 0) default).t
def sumA(A:List Arc)(l:List Nat)(k:Nat):Nat:=((l.take k).map fun a=>(A.getD a default).w).sum
theorem pq{l:List Nat}{a i:Nat}(h:i<l.length):(l++[a]).getD i 0=l.getD i 0:=by
 rw [xu,xu,ye h]
theorem mC{l:List Nat}{a:Nat}:(l++[a]).getD l.length 0=a:=by simp [xu]
theorem uq{A:List Arc}{s a i:Nat}{l:List Nat}(h:i<=l.length):endA A s (l++[a]) i=endA A s l i:=by
 unfold endA
 split
 . rfl
 . rw [pq (by omega)]
theorem ks.at{A:List Arc}{s t w:Nat}{l:List Nat}(h:ks A s l t w):(∀i,i<l.length->l.getD i 0<A.length/\(A.getD (l.getD i 0) default).s=endA A s l i)/\endA A s l l.length=t/\sumA A l l.length=w:=by
 induction h with
 |nil=>exact⟨fun i hi=>absurd hi (Nat.not_lt_zero _),rfl,rfl⟩
 | @snoc l w a _ ha ih=>
   obtain⟨h1,h2,h3⟩:=ih
   have hl:(l++[a]).length=l.length+1:=by simp
   refine⟨fun i hi=>?_,?_,?_⟩
   . rcases Nat.lt_or_ge i l.length with h|h
     . rw [pq h,uq (Nat.le_of_lt h)];exact h1 i h
     . have:i=l.length:=by omega
       subst this
       rw [mC,uq (xX _)]
       exact⟨ha,h2.symm⟩
   . rw [hl]
     unfold endA
     rw [if_neg (by omega),Nat.add_sub_cancel,mC]
   . unfold sumA at h3⊢
     rw [yg]at h3⊢
     rw [ym,List.sum_append,h3]
     rfl
theorem sumA_succ{A:List Arc}{l:List Nat}{k:Nat}(h:k<l.length):sumA A l (k+1)=sumA A l k+(A.getD (l.getD k 0) default).w:=by
 have e:l.getD k 0=l[k]:=by rw [xu,xw h];rfl
 unfold sumA
 rw [e,xG h,ym,List.sum_append]
 simp
section
variable{A:List Arc}{N s:Nat}{al:Nat->Bool}{pi:Nat->Int}{σ:SS}
theorem Sv.pathA(h:Sv A N s al pi σ): ∀(n:Nat) {v:Nat},(σ.P v).length<=n->(v∈σ.O\/σ.K v≠none)->ks A s (σ.P v).reverse v (σ.L v):=by
 intro n
 induction n with
 | zero=>
   intro v hl hv
   rcases h.path v hv with⟨rfl,p0,l0⟩|⟨a,_,_,_,_,hp,_⟩
   . rw [p0,l0];exact .nil
   . rw [hp]at hl;simp at hl
 | succ n ih=>
   intro v hl hv
   rcases h.path v hv with⟨rfl,p0,l0⟩|⟨a,ha,_,ht,hs,hp,hL⟩
   . rw [p0,l0];exact .nil
   . rw [hp]at hl⊢
     rw [hL,List.reverse_cons,<-ht]
     exact .snoc (ih (by rw [List.length_cons]at hl;omega) (.inl hs)) ha
theorem ends_path{to:Nat}{r:Fd}(hA: ∀a∈A,a.t<N/\a.w<=cP)(he:Ends A al pi to σ r):Sv A N s al pi σ->r.dist<FAR->ks A s r.arcs to r.dist:=by
 induction he with
 |none hn=>intro _ h;exact absurd h (Nat.lt_irrefl _)
 | @hit σ k hp=>intro h _;exact h.pathA _ (xX _) (.inr (by rw [hp.1];nofun))
 | @step σ v k r hp hne _ ih=>intro h;exact ih (h.next hA hp.1).1
end
end Go.Ab

end
section
namespace Go.Ab
open Go.Proofs
set_option maxRecDepth 10000
section
variable{γ:Gra}{l:List Int}
theorem wC(eT: ∀{s:Nat},s<γ.nodes-> ∀v,IsD (seen γ.arcs Arc.t Arc.s) s v (dOf (seen γ.arcs Arc.t Arc.s) s v))(eF: ∀{s:Nat},s<γ.nodes-> ∀v,IsD (seen γ.arcs Arc.s Arc.t) s v (dOf (seen γ.arcs Arc.s Arc.t) s v))(hl:gk γ.nodes l)
 {v u w d:Nat} (hv:v<γ.nodes) (hu:u<γ.nodes) (hw:w<γ.nodes) (hd:IsD (seen γ.arcs Arc.s Arc.t) v u d) (hdf:d<FAR) (i:Int):dY γ.nodes l.length (toR γ l) (frR γ l) i v w<=d+dY γ.nodes l.length (toR γ l) (frR γ l) i u w:=by
 unfold dY
 by_cases hi:0<=i/\i<(l.length:Int)
 . rw [if_pos ⟨by omega,by omega,hi⟩,if_pos ⟨by omega,by omega,hi⟩]
   obtain⟨i,rfl⟩:=xJ hi.1
   have hi:i<l.length:=by omega
   have hm:=hl.2 i hi
   obtain⟨s,es⟩: ∃s:Nat,l.getD i 0=s:=⟨(l.getD i 0).toNat,by omega⟩
   have hs:s<γ.nodes:=by omega
   rw [rP hi hv,rP hi hw,rP hi hu,rM hi hv,rM hi hw,rM hi hu,es,xO]
   have hF:=g8
   have a1:=(eT hs v).le
   have a2:=(eT hs w).le
   have a3:=(eF hs v).le
   have a4:=(eF hs w).le
   have a5:=(eT hs u).le
   have a6:=(eF hs u).le
   have t1:=fun h2=>tri_to (seen_back γ.arcs) hd (eT hs v) (eT hs u) hdf h2
   have t2:=fun h2=>tri_fr hd (eF hs v) (eF hs u) hdf h2
   rw [ny (by omega) (by omega),ny (by omega) (by omega),ny (by omega) (by omega),ny (by omega) (by omega)]
   generalize dOf (seen γ.arcs Arc.t Arc.s) s v=p1 at*
   generalize dOf (seen γ.arcs Arc.t Arc.s) s u=p2 at*
   generalize dOf (seen γ.arcs Arc.t Arc.s) s w=p3 at*
   generalize dOf (seen γ.arcs Arc.s Arc.t) s v=q1 at*
   generalize dOf (seen γ.arcs Arc.s Arc.t) s u=q2 at*
   generalize dOf (seen γ.arcs Arc.s Arc.t) s w=q3 at*
   have k1:p2<FAR->p1<=d+p2:=fun h=>(t1 h).2
   have k1':p2<FAR->p1<FAR:=fun h=>(t1 h).1
   have k2:q1<FAR->q2<=q1+d:=fun h=>(t2 h).2
   have k2':q1<FAR->q2<FAR:=fun h=>(t2 h).1
   clear t1 t2 eT eF hl
   have e1:(if p3<72057594037927936 then(if p1<72057594037927936 then max 0 ((p1:Int)-p3)else 72057594037927936)else 0)<=d+(if p3<72057594037927936 then(if p2<72057594037927936 then max 0 ((p2:Int)-p3)else 72057594037927936)else 0):=by
    by_cases h2:p2<FAR
    . have:=k1 h2
      have:=k1' h2
      repeat' split
      all_goals omega
    . repeat' split
      all_goals omega
   have e2:(if q1<72057594037927936 then(if q3<72057594037927936 then max 0 ((q3:Int)-q1)else 72057594037927936)else 0)<=d+(if q2<72057594037927936 then(if q3<72057594037927936 then max 0 ((q3:Int)-q2)else 72057594037927936)else 0):=by
    by_cases h2:q1<FAR
    . have:=k2 h2
      have:=k2' h2
      repeat' split
      all_goals omega
    . repeat' split
      all_goals omega
   omega
 . rw [if_neg (fun h=>hi h.2.2),if_neg (fun h=>hi h.2.2)]
   omega
theorem sc(eT: ∀{s:Nat},s<γ.nodes-> ∀v,IsD (seen γ.arcs Arc.t Arc.s) s v (dOf (seen γ.arcs Arc.t Arc.s) s v))(eF: ∀{s:Nat},s<γ.nodes-> ∀v,IsD (seen γ.arcs Arc.s Arc.t) s v (dOf (seen γ.arcs Arc.s Arc.t) s v))(hl:gk γ.nodes l)
 {v u w d:Nat} (hv:v<γ.nodes) (hu:u<γ.nodes) (hw:w<γ.nodes) (hd:IsD (seen γ.arcs Arc.s Arc.t) v u d) (hdf:d<FAR) (act:List Int):d9 γ.nodes l.length (toR γ l) (frR γ l) v w act<=d+d9 γ.nodes l.length (toR γ l) (frR γ l) u w act:=by
 have h:=(gU (f:=fun i=>dY γ.nodes l.length (toR γ l) (frR γ l) i u w) act 0).1 (yn _)
 refine(gU (f:=fun i=>dY γ.nodes l.length (toR γ l) (frR γ l) i v w) act 0).2 ⟨?_,fun i hi=>?_⟩
 . have:=h.1
   unfold d9
   omega
 . have h1:=wC eT eF hl hv hu hw hd hdf i
   have h2:=h.2 i hi
   unfold d9
   omega
theorem ke{N n:Nat}{R Q:Nat->List Int}{v w:Int}{act:List Int}:0<=d9 N n R Q v w act:=((gU (f:=fun i=>dY N n R Q i v w) act 0).1 (yn _)).1
theorem rF{N v:Nat}{f:Nat->Int}(hv:v<N)(h0:0<=f v):piF ((xx N).map f) v=f v:=by
 have hF:=g8
 unfold piF
 rw [if_neg (by intro h;have:=congrArg List.length h;simp at this;omega)]
 have:((xx N).map f).getD v 0=f v:=by simp [xu,hv]
 rw [this]
 omega
theorem pi_feas(eT: ∀{s:Nat},s<γ.nodes-> ∀v,IsD (seen γ.arcs Arc.t Arc.s) s v (dOf (seen γ.arcs Arc.t Arc.s) s v))(eF: ∀{s:Nat},s<γ.nodes-> ∀v,IsD (seen γ.arcs Arc.s Arc.t) s v (dOf (seen γ.arcs Arc.s Arc.t) s v))(hl:gk γ.nodes l)(hγ:Good γ)
 {w:Nat} (hw:w<γ.nodes) (act:List Int) (al:Nat->Bool):Feas γ.arcs al (piF ((xx γ.nodes).map fun(v:Nat)=>d9 γ.nodes l.length (toR γ l) (frR γ l) v w act)):=by
 intro i hi _
 have ha:γ.arcs.getD i default∈γ.arcs:=by rw [xu,xw hi];exact xP hi
 generalize γ.arcs.getD i default=a at ha
 obtain⟨h1,h2,h3⟩:=hγ.arcs a ha
 rw [rF h1 ke,rF h2 ke]
 have hd:=eF h1 a.t
 have hwk:Wk (seen γ.arcs Arc.s Arc.t) a.s a.t (0+a.w):=by rw [lW];exact .snoc ha .nil
 have hq:=hd.wk hwk
 have:=sc eT eF hl h1 h2 hw hd (by have:=g8;omega) act
 omega
end
end Go.Ab

end
section
namespace Go.Ab
open Go.Proofs
set_option maxRecDepth 10000
theorem xh{N n:Nat}{R Q:Nat->List Int}{i v:Int}:dY N n R Q i v v=0:=by
 have: ∀x:Int,jS x x=0:=fun x=>by unfold jS wy;repeat' split;all_goals omega
 unfold dY
 split
 . rw [this,this];rfl
 . rfl
theorem best_same{N n:Nat}{R Q:Nat->List Int}{v:Int}(act:List Int):d9 N n R Q v v act=0:=by
 refine Int.le_antisymm ((gU (f:=fun i=>dY N n R Q i v v) act 0).2 ⟨yn _,fun i _=>?_⟩) ke
 show dY N n R Q i v v<=0
 rw [xh]
 exact yn _
theorem uu{A:List Arc}{s to:Nat}{al:Nat->Bool}{pi:Nat->Int}(hal: ∀i,al i=true)(hp: ∀v w,Wk A v to w->pi v<(FAR:Int)){v w:Nat}(h:Wk A s v w):(∃x,Wk A v to x)->Wk (jg A al pi) s v w:=by
 induction h with
 |nil=>intro _;exact .nil
 | @snoc w a ha _ ih=>
   rintro⟨x,hx⟩
   have h1:Wk A a.s to (0+a.w+x):=(Wk.snoc ha .nil).trans hx
   refine .snoc (l7.2 ?_) (ih ⟨_,h1⟩)
   obtain⟨i,hi,e⟩:=List.getElem_of_mem ha
   have e':A.getD i default=a:=by rw [xu,xw hi,e];rfl
   exact⟨i,hi,⟨hal i,by rw [e'];exact hp _ _ h1,by rw [e'];exact hp _ _ hx⟩,e'⟩
theorem hArcs_sub{A:List Arc}{al:Nat->Bool}{pi:Nat->Int}{a:Arc}(h:a∈jg A al pi):a∈A:=by
 obtain⟨i,hi,_,rfl⟩:=l7.1 h
 rw [xu,xw hi];exact xP hi
theorem isD_hArcs{A:List Arc}{s to x:Nat}{al:Nat->Bool}{pi:Nat->Int}(hal: ∀i,al i=true)(hp: ∀v w,Wk A v to w->pi v<(FAR:Int))(h:IsD (jg A al pi) s to x):IsD A s to x:=by
 rcases h with⟨a,b,c⟩|⟨a,b⟩
 . exact .inl ⟨a,b.mono (fun _=>hArcs_sub),fun w hw=>c w (uu hal hp hw ⟨0,.nil⟩)⟩
 . exact .inr ⟨a,fun w hw=>b w (uu hal hp hw ⟨0,.nil⟩)⟩
theorem vZ{A:List Arc}{al:Nat->Bool}{pi:Nat->Int}{to:Nat}{σ:SS}{r:Fd}(h:Ends A al pi to σ r)(h0: ∀v,σ.K v=none):r=⟨FAR,[],σ.ev⟩:=h.uniq (.none h0)
theorem wk_first{A:List Arc}{N v u x:Nat}(hA: ∀a∈A,a.s<N)(h:Wk A v u x):v=u\/v<N:=by
 induction h with
 |nil=>exact .inl rfl
 | snoc ha _ ih=>
   rcases ih with e|h
   . exact .inr (by rw [e];exact hA _ ha)
   . exact .inr h
section
variable{γ:Gra}{l:List Int}
theorem sG(eT: ∀{s:Nat},s<γ.nodes-> ∀v,IsD (seen γ.arcs Arc.t Arc.s) s v (dOf (seen γ.arcs Arc.t Arc.s) s v))(eF: ∀{s:Nat},s<γ.nodes-> ∀v,IsD (seen γ.arcs Arc.s Arc.t) s v (dOf (seen γ.arcs Arc.s Arc.t) s v))(hl:gk γ.nodes l)(hγ:Good γ)
 {s w:Nat} (hs:s<γ.nodes) (hw:w<γ.nodes) (hsw:s≠w) {act:List Int} {fd:Fd} (he:Ends γ.arcs (alF []) (piF ((xx γ.nodes).map fun(v:Nat)=>d9 γ.nodes l.length (toR γ l) (frR γ l) v w act)) w (eK (piF ((xx γ.nodes).map fun(v:Nat)=>d9 γ.nodes l.length (toR γ l) (frR γ l) v w act)) s) fd):
 IsD γ.arcs s w fd.dist/\(fd.dist<FAR->ks γ.arcs s fd.arcs w fd.dist):=by
 have hA: ∀a∈γ.arcs,a.t<γ.nodes/\a.w<=cP:=fun a ha=>⟨(hγ.arcs a ha).2.1,(hγ.arcs a ha).2.2⟩
 have hF:=pi_feas eT eF hl hγ hw act (alF [])
 have hal: ∀i,alF [] i=true:=fun _=>rfl
 have far:=g8
 have low: ∀v,v<γ.nodes-> ∀x,Wk γ.arcs v w x->d9 γ.nodes l.length (toR γ l) (frR γ l) v w act<(FAR:Int):=fun v hv x hx=>by
  have hd:=eF hv w
  have hq:=hd.wk (by rw [lW];exact hx)
  have:=sc eT eF hl hv hw hw hd hq.1 act
  rw [best_same]at this
  omega
 have nd: ∀v x,Wk γ.arcs v w x->v=w\/v<γ.nodes:=fun v x hx=>wk_first (fun a ha=>(hγ.arcs a ha).1) hx
 have hp: ∀v x,Wk γ.arcs v w x->piF ((xx γ.nodes).map fun(v:Nat)=>d9 γ.nodes l.length (toR γ l) (frR γ l) v w act) v<(FAR:Int):=fun v x hx=>by
  have hv:v<γ.nodes:=(nd v x hx).elim (fun h=>by rw [h];exact hw) (fun h=>h)
  rw [rF hv ke]
  exact low v hv x hx
 generalize piF ((xx γ.nodes).map fun(v:Nat)=>d9 γ.nodes l.length (toR γ l) (frR γ l) v w act)=pi at he hF hp
 refine⟨?_,ends_path (N:=γ.nodes) hA he (pf hs)⟩
 by_cases hps:pi s<(FAR:Int)
 . refine isD_hArcs hal hp (ends_isD hA hγ.n2 hF he (pf hs) (fe_init hps) ?_)
   unfold eK dy
   split<;>exact fun h=>by cases h
 . have h0: ∀v,(eK pi s).K v=none:=fun v=>by
    unfold eK dy
    split
    . rfl
    . rename_i hc
      simp only [not_or]at hc
      exact absurd (by omega) hps
   rw [vZ he h0]
   exact .inr ⟨rfl,fun x hx=>hps (hp s x hx)⟩
end
end Go.Ab

end
section
namespace Go.Ab
theorem St.growB{M:Nat->Prop}{h0 h:Hp}{L:List (Nat×Ob)}{G:List GL}(S:St M h0 h L G){E:Env}{t tx e:TypeId}{by_ k m len b md:Nat}{zs vs new:List Value}{x:Value}(hr:Row h b vs md)(hlen:len*k=vs.length)(hu:E.und t=some (.slice e))(he:dv E e by_ k zs)(hb:0<by_)
 (hx:ax E tx=some false) (hsrc:aJ h k x=some (m,new)) (hm:m*k=new.length) (h1:0<m) (hk:0<k) (hsz:(vs.length+new.length)*(by_+1)<=70368744177664) {ts:List TypeId}:
 ∃h' v',cG E h (t::tx::ts) (.slice (some ⟨b,0,none⟩) len len) x=some (h',v')/\St M h0 h' L ((v',k,vs++new)::G):=by
 obtain⟨⟨i,hi,rfl,rfl⟩,hz,hl⟩:=he
 obtain⟨tr,el,hget,hsz',htr⟩:=hr
 have hcap:Nat.ble (len+m) len=false:=by
  cases hx:Nat.ble (len+m) len with
  |false=>rfl
  |true=>exact absurd (lbt hx) (by omega)
 have hmul:len+m<=vs.length+new.length:=by
  rw [<-hlen,<-hm]
  have h1:=yi len hk
  have h2:=yi m hk
  omega
 have hguard:(Nat.ble ((len+m)*(i.bytes+1)) 70368744177664&&Nat.blt 0 i.bytes)=true:=by
  rw [yp (xz (Nat.mul_le_mul_right _ hmul) hsz)]
  simp only [Bool.true_and]
  rw [Nat.blt_eq];exact hb
 have hzl:Nat.beq zs.length i.size=true:=by rw [hl];exact Nat.beq_refl _
 have hgt:gW tr vs.length 0 (len*i.size) new=some (tr.pushAll vs.length new,vs.length+new.length):=by
  unfold gW
  rw [hlen,Nat.beq_refl vs.length]
  rfl
 refine⟨h.new (.cells (tr.pushAll vs.length new) (vs.length+new.length) e 1),.slice (some ⟨h.n,0,some i.size⟩) (len+m) (len+m),?_,S.newG (n:=len+m) ?_ ?_⟩
 . unfold cG
   simp only [hx]
   unfold ie
   simp only [hu,hi,hsrc]
   unfold dR
   rw [hcap]
   simp only [cond_false]
   rw [hguard,hz]
   simp only [cond_true,hzl]
   unfold ku
   simp only [hget,hgt]
 . rw [Nat.add_mul,hlen,hm,ya]
 . refine⟨tr.pushAll vs.length new,e,?_,?_,fun n=>?_⟩
   . rw [Hp.get_new _ _ S.ok,if_pos rfl,ya]
   . rw [ya];exact Tr.sized_pushAll _ hsz'
   . rw [Tr.get_pushAll _ _ _ hsz',List.getElem?_append]
     split
     . exact htr n
     . rfl
end Go.Ab

end
section
namespace Go.Ab
open Go.Proofs
set_option maxRecDepth 10000
open Tryz in
def Tryz.FFb945:=aj a1<|aj s1<|aj z1<|aj n1<|aj u2<|aj a2<|aj s2<|aj z2<|aj i2<|aj u3<|aj a3<|aj s3<|aj z3<|aj i3<|aj u4<|aj a4<|aj s4<|aj z4<|aj n4<|aj u5<|aj a5<|aj s5<|aj z5<|aj i5<|aj u6<|aj a6<|aj s6<|aj z6<|aj i6<|aj a7<|aj s7<|aj z7<|aj i7<|aj n7<|aj p7<|aj ff7<|aj d7<|aj a8<|aj s8<|aj z8<|aj i8<|aj n8<|aj p8<|aj ff8<|aj d8<|aj u9<|aj a9<|aj s9<|aj z9<|aj n9<|aj u10<|aj a10<|aj s10<|aj z10<|aj n10<|aj u25<|aj a25<|aj s25<|aj z25<|aj q25<|aj n25<|aj u28<|aj a28<|aj s28<|aj z28<|aj q28<|aj n28<|aj a30<|aj s30<|aj z30<|aj i30<|aj n30<|aj p30<|aj ff30<|aj d30<|aj u40<|aj a40<|aj s40<|aj z40<|aj q40<|aj n40<|aj a59<|aj s59<|aj z59<|aj i59<|aj n59<|aj p59<|aj ff59<|d59
theorem xd{h0:Hp}(ok:h0.t.Sized h0.n){γ:Gra}(hγ:Good γ){vx vy va vI:Value}(ga:cm h0 vx vy va γ){ids:List Nat}{s t w:Nat}(hI:ay h0 1 bI vI ids)(hp:ks γ.arcs s ids t w)(hs:s<γ.nodes)(hn:ids.length<=1000):
 Ret xt 45 [.agg ⟨[.int .i64 γ.nodes,vx,vy,va]⟩,.int .i64 (s:Nat),vI] h0 fun r h'=>Gr h0 h'/\ ∃v ns,r=.tuple #[v,.bool true]/\ay h' 1 bI v ns/\ns.length=ids.length+1/\ns.getD ids.length 0=t:=by
 have S:=Si ok
 have fx:=ga.X.fl
 have fy:=ga.Y.fl
 have fa:=ga.A.fl
 obtain⟨p1,p2,p3⟩:=hp.at
 have s0: ¬(s:Int)<0:=by omega
 have s1: ¬(γ.nodes:Int)<=(s:Int):=by omega
 refine ac (n:=72) (rs:=[.tmp 6,.tmp 7]) rfl Tryz.e45 rfl rfl rfl (lbt rfl) ?_
 simp only [BS,Nat.reduceLT]
 refine ag (bu (by intro x e;cases e)) S ?_;clear S;intro h b3 S n_b3;simp only [ae]at S
 have R3:=S.row (b:=b3) m0
 have g0:=S.gr
 have okA:=S.ok
 clear S
 rename Hp=>hA
 have S:=Si okA
 have l30:=R3.load1 (o:=0) rfl
 have l33:=R3.load1 (o:=3) rfl
 simp only [BS,LB,Nat.reduceLT,Nat.reduceEqDiff,Tryz.FFb945,s0,s1,l30]
 refine ag (bH (by exact xL) (by exact xQ) (by decide) (by rfl)) S ?_;clear S;intro h bs S n_bs;simp only [LC,aR,bj,ae,Nat.reduceMul,Nat.reduceAdd,xF,xH,xC,xM]at S
 have n100:=hγ.many
 simp only [BS,LB,Nat.reduceLT,Nat.reduceEqDiff]
 refine aT (fun(i:Nat) ρ h=>i<=ids.length/\ ∃(v:Value) (ns:List Nat),(St NoM hA h [(bs,.row (ns.flatMap bI) 1)] []/\v=.slice (some ⟨bs,0,none⟩) 1 1/\ns.length=1\/St NoM hA h [] [(v,1,ns.flatMap bI)])/\ns.length=i+1/\ns.getD i 0=endA γ.arcs s ids i/\ρ 2=vI/\ρ 3=ptrTo b3/\ρ 8=v/\ρ 9=.int .i64 i) (fun i=>ids.length-i) ?_ 0 _ _ ?_
 . clear S
   rintro i ih ρ h ⟨hi,v,ns,hS,hl,hlast,r2,r3,r8,r9⟩
   have w:ar .i64 ((i:Int)+1)=((i+1:Nat):Int):=by rw [wrap64]<;>omega
   have gS:Gr hA h:=by rcases hS with⟨S,_⟩|S<;>exact S.gr
   have sv:ay h 1 bI v ns:=by
    rcases hS with⟨S,rfl,h1⟩|S
    . obtain⟨z,rfl⟩:=List.length_eq_one_iff.1 h1
      exact .inr ⟨bs,0,none,1,rfl,xX _,S.lds (b:=bs) (o:=0) (n:=1*1) m0 (lbt rfl)⟩
    . exact(S.gown _ m0).1.sl rfl dG (by decide)
   by_cases hlt:i<ids.length
   . obtain⟨ha,hs'⟩:=p1 i hlt
     have ea:ids.getD i 0=ids[i]:=by rw [xu,xw hlt];rfl
     obtain⟨a,ea'⟩: ∃a,ids[i]=a:=⟨_,rfl⟩
     rw [ea,ea']at ha hs'
     have gX:=g0.trans gS
     obtain⟨c0,o0,x0,y0⟩:=(hI.gr gX).ix (kd:=.i64) dG hlt
     rw [ea']at y0
     replace y0:h.load c0 o0 1=some [.int .i64 (a:Nat)]:=y0
     obtain⟨c3,o3,x3,y3⟩:=(ga.gr gX).A.ix (kd:=.i64) d6 ha
     have eA:γ.arcs.getD a default=γ.arcs[a]:=by rw [xu,xw ha];rfl
     have y30:h.load c3 o3 1=some [.int .i64 (γ.arcs[a].s:Nat)]:=jh y3 (i:=0) (m:=1) (by omega)
     have y31:h.load c3 (o3+1) 1=some [.int .i64 (γ.arcs[a].t:Nat)]:=jh y3 (i:=1) (m:=1) (by omega)
     obtain⟨c8,o8,x8,y8⟩:=sv.ix (kd:=.i64) dG (i:=i) (by omega)
     have e8:ns[i]=γ.arcs[a].s:=by
      have h1:ns.getD i 0=ns[i]:=by rw [xu,xw (by omega)];rfl
      rw [<-h1,hlast,<-hs',eA]
     rw [e8]at y8
     replace y8:h.load c8 o8 1=some [.int .i64 (γ.arcs[a].s:Nat)]:=y8
     have m33:=gS.load l33
     have a0: ¬(a:Int)<0:=by omega
     have a1: ¬(γ.arcs.length:Int)<=(a:Int):=by omega
     have wl:ar .i64 ((ns.length:Int)-1)=(i:Int):=by rw [wrap64]<;>omega
     simp only [BS,LB,Nat.reduceLT,Nat.reduceEqDiff,Tryz.FFb945,r2,r9,hI.lenq,aH,hlt]
     refine aw (aC rfl) (q:=0) (ps:=[]) (by kernel_rfl) ?_
     simp only [BS,LB,cls,Nat.reduceLT,Nat.reduceEqDiff,Nat.reduceAdd,Nat.reducePow,Nat.reduceDiv,Nat.reduceMod,Nat.reduceLeDiff,Tryz.FFb945,r2,r3,r8,r9,x0,y0,a0,m33,ga.A.lenq,a1,x3,y30,sv.lenq,wl,x8,y8]
     have fl:(ns++[γ.arcs[a].t]).flatMap bI=ns.flatMap bI++[.int .i64 (γ.arcs[a].t:Nat)]:=by rw [List.flatMap_append];rfl
     have lst:(ns++[γ.arcs[a].t]).getD (i+1) 0=endA γ.arcs s ids (i+1):=by
      rw [<-hl,mC,hl]
      unfold endA
      rw [if_neg (by omega),Nat.add_sub_cancel,ea,ea',eA]
     have ln:(ns.flatMap bI).length=ns.length:=by rw [aU dG,xC]
     rcases hS with⟨S,rfl,h1⟩|S
     . refine aw (aC rfl) (q:=1024) (ps:=[]) (by kernel_rfl) ?_
       simp only [BS,LB,cls,Nat.reduceLT,Nat.reduceEqDiff,Nat.reduceAdd,Nat.reducePow,Nat.reduceDiv,Nat.reduceMod,Nat.reduceLeDiff,Tryz.FFb945,r2,r3,r8,r9,x0,y0,m33,x3,y31]
       refine dg (bH (by exact xL) (by exact xQ) (by decide) (by rfl)) S ?_;clear S;intro h bt S n_bt e_bt;simp only [LC,aR,bj,ae,Nat.reduceMul,Nat.reduceAdd,xF,xH,xC,xM]at S
       simp only [BS,LB,cls,Nat.reduceLT,Nat.reduceEqDiff,Nat.reduceAdd,Nat.reducePow,Nat.reduceDiv,Nat.reduceMod,Nat.reduceLeDiff]
       have src:aJ h 1 (.slice (some ⟨bt,0,none⟩) 1 1)=some (1,[.int .i64 (γ.arcs[a].t:Nat)]):=by simp only [aJ];rw [S.lds (b:=bt) (o:=0) (n:=1*1) m0 (lbt rfl)];rfl
       replace S:=S.drop1
       refine kP (St.growB S (b:=bs) (m:=1) (new:=[.int .i64 (γ.arcs[a].t:Nat)]) (S.row (b:=bs) m0) (by rw [ln,h1]) xL xQ (by decide) yr src rfl (by decide) (by decide) (by rw [ln,h1];exact lbt rfl)) ?_
       clear S src;rintro h v' S
       replace S:=S.drop1
       simp only [BS,LB,cls,Nat.reduceLT,Nat.reduceEqDiff,Nat.reduceAdd,Nat.reducePow,Nat.reduceDiv,Nat.reduceMod,Nat.reduceLeDiff,r9]
       simp only [w]
       exact ih (i+1) _ _ (by omega) ⟨by omega,v',ns++[γ.arcs[a].t],.inr (by rw [fl];exact S),by simp [hl],lst,by simp [aa,r2],by simp [aa,r3,an],by simp [aa],by simp [aa]⟩
     . refine aw (aC rfl) (q:=1024) (ps:=[]) (by kernel_rfl) ?_
       simp only [BS,LB,cls,Nat.reduceLT,Nat.reduceEqDiff,Nat.reduceAdd,Nat.reducePow,Nat.reduceDiv,Nat.reduceMod,Nat.reduceLeDiff,Tryz.FFb945,r2,r3,r8,r9,x0,y0,m33,x3,y31]
       refine dg (bH (by exact xL) (by exact xQ) (by decide) (by rfl)) S ?_;clear S;intro h bt S n_bt e_bt;simp only [LC,aR,bj,ae,Nat.reduceMul,Nat.reduceAdd,xF,xH,xC,xM]at S
       simp only [BS,LB,cls,Nat.reduceLT,Nat.reduceEqDiff,Nat.reduceAdd,Nat.reducePow,Nat.reduceDiv,Nat.reduceMod,Nat.reduceLeDiff]
       have src:aJ h 1 (.slice (some ⟨bt,0,none⟩) 1 1)=some (1,[.int .i64 (γ.arcs[a].t:Nat)]):=by simp only [aJ];rw [S.lds (b:=bt) (o:=0) (n:=1*1) m0 (lbt rfl)];rfl
       replace S:=S.drop1
       refine kP (S.grow (j:=0) (m:=1) (new:=[.int .i64 (γ.arcs[a].t:Nat)]) rfl xL xQ (by decide) yr src rfl (by decide) rfl (by rw [ln];simp;omega)) ?_
       clear S src;rintro h v' S
       simp only [LC]at S
       simp only [BS,LB,cls,Nat.reduceLT,Nat.reduceEqDiff,Nat.reduceAdd,Nat.reducePow,Nat.reduceDiv,Nat.reduceMod,Nat.reduceLeDiff,r9]
       simp only [w]
       exact ih (i+1) _ _ (by omega) ⟨by omega,v',ns++[γ.arcs[a].t],.inr (by rw [fl];exact S),by simp [hl],lst,by simp [aa,r2],by simp [aa,r3,an],by simp [aa],by simp [aa]⟩
   . have ei:i=ids.length:=by omega
     subst ei
     simp only [BS,LB,ab,Nat.reduceLT,Nat.reduceEqDiff,Tryz.FFb945,r2,r8,r9,hI.lenq,aH,hlt]
     exact⟨g0.trans gS,v,ns,rfl,sv,hl,by rw [hlast,p2]⟩
 . exact⟨xB _,_,[s],.inl ⟨S,rfl,rfl⟩,rfl,rfl,by simp [aa,cg],by simp [aa,an],by simp [aa],by simp [aa]⟩
open Tryz in
def Tryz.FFb1016:=aj a1<|aj s1<|aj z1<|aj n1<|aj u2<|aj a2<|aj s2<|aj z2<|aj i2<|aj u3<|aj a3<|aj s3<|aj z3<|aj i3<|aj u4<|aj a4<|aj s4<|aj z4<|aj n4<|aj u5<|aj a5<|aj s5<|aj z5<|aj i5<|aj u6<|aj a6<|aj s6<|aj z6<|aj i6<|aj a7<|aj s7<|aj z7<|aj i7<|aj n7<|aj p7<|aj ff7<|aj d7<|aj a8<|aj s8<|aj z8<|aj i8<|aj n8<|aj p8<|aj ff8<|aj d8<|aj u9<|aj a9<|aj s9<|aj z9<|aj n9<|aj u25<|aj a25<|aj s25<|aj z25<|aj q25<|aj n25<|aj u28<|aj a28<|aj s28<|aj z28<|aj q28<|aj n28<|aj a30<|aj s30<|aj z30<|aj i30<|aj n30<|aj p30<|aj ff30<|aj d30<|aj u40<|aj a40<|aj s40<|aj z40<|aj q40<|aj n40<|aj a59<|aj s59<|aj z59<|aj i59<|aj n59<|aj p59<|aj ff59<|d59
theorem qS{h0:Hp}(ok:h0.t.Sized h0.n){γ:Gra}(hγ:Good γ){vx vy va vI:Value}(ga:cm h0 vx vy va γ){ids:List Nat}{s t w:Nat}(hI:ay h0 1 bI vI ids)(hp:ks γ.arcs s ids t w)(hs:s<γ.nodes)(hn:ids.length<=1000):
 Ret xt 16 [.agg ⟨[.int .i64 γ.nodes,vx,vy,va]⟩,.int .i64 (s:Nat),.int .i64 (t:Nat),vI] h0 fun r h'=>Gr h0 h'/\r=.tuple #[.int .i64 (w:Nat),.bool true]:=by
 have S:=Si ok
 have fx:=ga.X.fl
 have fy:=ga.Y.fl
 have fa:=ga.A.fl
 have fI:=hI.fl
 obtain⟨p1,p2,p3⟩:=hp.at
 refine ac (n:=51) (rs:=[.tmp 8,.tmp 9]) rfl Tryz.e16 rfl rfl rfl (lbt rfl) ?_
 simp only [BS,Nat.reduceLT]
 refine ag (bu (by intro x e;cases e)) S ?_;clear S;intro h b4 S n_b4;simp only [ae]at S
 simp only [BS,LB,Nat.reduceLT,Nat.reduceEqDiff,Tryz.FFb1016,xU,xW,xZ,S.lds (b:=b4) (o:=0) (n:=4) m0 (lbt rfl)]
 refine step_ret (xd S.ok hγ (ga.gr S.gr) (hI.gr S.gr) hp hs hn) ?_;intro v h ⟨g,v1,ns,er,sN,hl,hlast⟩;replace S:=S.call g;clear g
 subst er
 have R4:=S.row (b:=b4) m0
 have g0:=S.gr
 have okA:=S.ok
 clear S
 rename Hp=>hA
 have S:=Si okA
 have wl:ar .i64 ((ns.length:Int)-1)=(ids.length:Int):=by rw [wrap64]<;>omega
 obtain⟨c8,o8,x8,y8⟩:=sN.ix (kd:=.i64) dG (i:=ids.length) (by omega)
 have e8:ns[ids.length]=t:=by
  have h1:ns.getD ids.length 0=ns[ids.length]:=by rw [xu,xw (by omega)];rfl
  rw [<-h1,hlast]
 rw [e8]at y8
 replace y8:hA.load c8 o8 1=some [.int .i64 (t:Nat)]:=y8
 have l43:=R4.load1 (o:=3) rfl
 simp only [BS,LB,Nat.reduceLT,Nat.reduceEqDiff,Tryz.FFb1016,sN.lenq,wl,x8,y8]
 refine aT (fun(i:Nat) ρ h=>i<=ids.length/\St NoM hA h [] []/\sumA γ.arcs ids i<=i*2147483647/\ρ 3=vI/\ρ 4=ptrTo b4/\ρ 12=.int .i64 (sumA γ.arcs ids i:Nat)/\ρ 13=.int .i64 i) (fun i=>ids.length-i) ?_ 0 _ _ ?_
 . clear S
   intro i ih ρ h ⟨hi,S,hb,r3,r4,r12,r13⟩
   have wi:ar .i64 ((i:Int)+1)=((i+1:Nat):Int):=by rw [wrap64]<;>omega
   by_cases hlt:i<ids.length
   . obtain⟨ha,hs'⟩:=p1 i hlt
     have ea:ids.getD i 0=ids[i]:=by rw [xu,xw hlt];rfl
     have hsum:=sumA_succ (A:=γ.arcs) hlt
     obtain⟨a,ea'⟩: ∃a,ids[i]=a:=⟨_,rfl⟩
     rw [ea,ea']at ha
     rw [ea,ea']at hsum
     have gX:=g0.trans S.gr
     obtain⟨c0,o0,x0,y0⟩:=(hI.gr gX).ix (kd:=.i64) dG hlt
     rw [ea']at y0
     replace y0:h.load c0 o0 1=some [.int .i64 (a:Nat)]:=y0
     obtain⟨c3,o3,x3,y3⟩:=(ga.gr gX).A.ix (kd:=.i64) d6 ha
     have eA:γ.arcs.getD a default=γ.arcs[a]:=by rw [xu,xw ha];rfl
     rw [eA]at hsum
     have hw:=(hγ.arcs _ (xP ha)).2.2
     have y32:h.load c3 (o3+2) 1=some [.int .i64 (γ.arcs[a].w:Nat)]:=jh y3 (i:=2) (m:=1) (by omega)
     have m43:=S.gr.load l43
     have ws:ar .i64 ((sumA γ.arcs ids i:Int)+(γ.arcs[a].w:Int))=((sumA γ.arcs ids (i+1):Nat):Int):=by rw [hsum,wrap64]<;>omega
     simp only [BS,LB,Nat.reduceLT,Nat.reduceEqDiff,Tryz.FFb1016,r3,r13,hI.lenq,aH,hlt]
     refine aw (aC rfl) (q:=0) (ps:=[]) (by kernel_rfl) ?_
     simp only [BS,LB,cls,Nat.reduceLT,Nat.reduceEqDiff,Nat.reduceAdd,Nat.reducePow,Nat.reduceDiv,Nat.reduceMod,Nat.reduceLeDiff,Tryz.FFb1016,r3,r4,r12,r13,x0,y0,m43,x3,y32,ws,wi]
     exact ih (i+1) _ _ (by omega) ⟨by omega,S,by omega,by simp [aa,r3],by simp [aa,r4,an],by simp [aa],by simp [aa]⟩
   . have ei:i=ids.length:=by omega
     subst ei
     simp only [BS,LB,ab,Nat.reduceLT,Nat.reduceEqDiff,Tryz.FFb1016,r3,r12,r13,hI.lenq,aH,hlt]
     exact⟨g0.trans S.gr,by rw [p3]⟩
 . exact⟨xB _,S,xB _,by simp [aa,cg],by simp [aa,an],by simp [aa];rfl,by simp [aa]⟩
open Tryz in
def Tryz.FFb1113:=aj a1<|aj s1<|aj z1<|aj n1<|aj u2<|aj a2<|aj s2<|aj z2<|aj i2<|aj u3<|aj a3<|aj s3<|aj z3<|aj i3<|aj u4<|aj a4<|aj s4<|aj z4<|aj n4<|aj u5<|aj a5<|aj s5<|aj z5<|aj i5<|aj u22<|aj a22<|aj s22<|aj z22<|aj q22<|aj n22<|aj a24<|aj s24<|aj z24<|aj i24<|aj n24<|aj p24<|aj ff24<|aj d24<|aj u25<|aj a25<|aj s25<|aj z25<|aj q25<|aj n25<|aj a27<|aj s27<|aj z27<|aj i27<|aj n27<|aj p27<|aj ff27<|aj d27<|aj u97<|aj a97<|aj s97<|aj z97<|i97
theorem u64_nn(f:Int): ∃m:Nat,ar .u64 f=(m:Int):=by
 unfold ar
 cases f with
 | ofNat m=>
   simp only []
   cases h:Nat.blt m (hf .u64)<;>exact⟨_,rfl⟩
 |negSucc m=>exact⟨_,rfl⟩
theorem sd{N:Nat}(n2:N<=100):ar .u64 (N:Int)=(N:Int):=by
 have h:Nat.blt N (hf .u64)=true:=by
  rw [Nat.blt_eq]
  exact Nat.lt_of_le_of_lt n2 (by decide)
 show(bif Nat.blt N (hf .u64)then Int.ofNat N else _)=_
 rw [h];rfl
theorem u64_mod(f:Int){N:Nat}(n1:1<=N)(n2:N<=100): ∃s:Nat,s<N/\ar .i64 ((ar .u64 f).tmod (ar .u64 (N:Int)))=(s:Int):=by
 obtain⟨m,em⟩:=u64_nn f
 have hm:m%N<N:=Nat.mod_lt _ (by omega)
 refine⟨m%N,hm,?_⟩
 rw [em,sd n2,yc (by omega),<-Int.natCast_emod,wrap64]<;>omega
theorem v8{h0:Hp}(ok:h0.t.Sized h0.n){vB vM vN:Value}{w0 f t a:Int}(fB:Fl vB)(fM:Fl vM)(fN:Fl vN){N:Nat}(n1:1<=N)(n2:N<=100):
 Ret xt 13 [.agg ⟨[vB,vM,.int .i64 w0,.int .i64 f,.int .i64 t,.int .i64 a,vN]⟩,.int .i64 N] h0 fun r h'=>Gr h0 h'/\ ∃(s u:Nat) (a':Int),s<N/\u<N/\r=.agg ⟨[.int .i64 w0,.int .i64 s,.int .i64 u,.int .i64 a']⟩:=by
 have S:=Si ok
 obtain⟨s,hs,es⟩:=u64_mod f n1 n2
 obtain⟨u,hu,eu⟩:=u64_mod t n1 n2
 have nz:ar .u64 (N:Int)≠0:=by rw [sd n2];omega
 refine ac (n:=29) (rs:=[.cell 4 24]) rfl Tryz.e13 rfl rfl rfl (lbt rfl) ?_
 simp only [BS,Nat.reduceLT]
 refine ag (bu (by intro x e;cases e)) S ?_;clear S;intro h b2 S n_b2;simp only [ae]at S
 simp only [BS,Tryz.FFb1113]
 refine ag aD S ?_;clear S;intro h b4 S n_b4
 simp only [BS,LB,Nat.reduceLT,Nat.reduceEqDiff,Tryz.FFb1113,xU,List.drop_succ_cons,xW,xZ,S.lds (b:=b2) (o:=2) (n:=4) m1 (lbt rfl)]
 refine ag aD S ?_;clear S;intro h b5 S n_b5
 simp only [BS,LB,Nat.reduceLT,Nat.reduceEqDiff]
 refine aE (S.store (i:=0) rfl Tryz.s24 (by intro x e;cases e) rfl rfl (lbt rfl) ono) ?_
 clear S;rintro h ⟨S,mo⟩;clear mo
 simp only [LC,ae,lay,xR,xS,Nat.reduceAdd]at S
 simp only [BS]
 refine aw (aC rfl) (q:=0) (ps:=[]) (by kernel_rfl) ?_
 simp only [BS,LB,iP,bS,iM,cls,Nat.reduceLT,Nat.reduceEqDiff,Nat.reduceAdd,Nat.reducePow,Nat.reduceDiv,Nat.reduceMod,Nat.reduceLeDiff,Tryz.FFb1113,o6 nz,es,eu,S.ld (b:=b5) (o:=1) m0 rfl,S.ld (b:=b5) (o:=2) m0 rfl]
 refine df (aA S (i:=0) rfl yf bD (xI (lbt rfl)) ono) ?_
 clear S;rintro h ⟨S,_⟩
 simp only [LC]at S
 simp only [BS,LB,cls,Nat.reduceLT,Nat.reduceEqDiff,Nat.reduceAdd,Nat.reducePow,Nat.reduceDiv,Nat.reduceMod,Nat.reduceLeDiff,Tryz.FFb1113]
 refine df (aA S (i:=0) rfl yf bD (xI (lbt rfl)) ono) ?_
 clear S;rintro h ⟨S,_⟩
 simp only [LC]at S
 simp only [BS,LB,Nat.reduceLT,Nat.reduceEqDiff,Nat.reduceAdd,Tryz.FFb1113,o6 (n:=9) (by decide),S.ld (b:=b5) (o:=3) m0 rfl]
 refine aE (aA S (i:=0) rfl yf bD (xI (lbt rfl)) ono) ?_
 clear S;rintro h ⟨S,_⟩
 simp only [LC]at S
 simp only [BS,LB,Nat.reduceLT,Nat.reduceEqDiff,Tryz.FFb1113,xU,xW,xZ,S.lds (b:=b5) (o:=0) (n:=4) m0 (lbt rfl)]
 refine aE (S.store (i:=1) rfl Tryz.s24 (by intro x e;cases e) rfl rfl (lbt rfl) ono) ?_
 clear S;rintro h ⟨S,mo⟩;clear mo
 simp only [LC,ae,lay,xR,xS,Nat.reduceAdd]at S
 simp only [BS,ab]
 refine(dC (by decide) (by simp only [aP,an,Nat.reduceEqDiff,reduceIte];exact cd Tryz.a24 Tryz.s24 (S.lds (b:=b4) (o:=0) (n:=4) m1 (lbt rfl)))).2 ?_
 refine dT.2 ?_
 exact⟨S.gr,s,u,_,hs,hu,rfl⟩
end Go.Ab
end
section
namespace Go.Ab
theorem St.toL{M:Nat->Prop}{h0 h:Hp}{L:List (Nat×Ob)}{v:Value}{vs:List Value}(S:St M h0 h L [(v,1,vs)])(hne:vs≠ []): ∃b,v=.slice (some ⟨b,0,some 1⟩) vs.length vs.length/\St M h0 h ((b,.row vs 1)::L) []:=by
 obtain⟨g,k⟩:=S.gown _ (List.mem_singleton.2 rfl)
 rcases g with⟨_,e⟩|⟨b,n,e1,e2,e3⟩
 . exact absurd e hne
 . have en:n=vs.length:=by rw [<-show n*1=vs.length from e2,xC]
   subst en
   have ev:v=.slice (some ⟨b,0,some 1⟩) vs.length vs.length:=e1
   have hk:dt (v,1,vs)=some b:=by rw [ev];rfl
   have ap:=S.apart
   have nb:b∉L.map Prod.fst:=by
    have h1:=ap
    unfold keys at h1
    rw [List.nodup_append]at h1
    exact fun hc=>h1.2.2 b hc b (List.mem_filterMap.2 ⟨_,List.mem_singleton.2 rfl,hk⟩) rfl
   refine⟨b,ev,St.push (St.sub S (List.Sublist.refl _) (List.nil_sublist _)) (k b hk) e3 ?_⟩
   simpa [keys]using nb
def je(N:Nat)(l:Nat->Nat):List Value:=(xx N).map fun v=>.int .i64 (l v:Nat)
theorem tW{N:Nat}{l:Nat->Nat}{v:Nat}(h:v<N):(je N l)[v]? =some (.int .i64 (l v:Nat)):=iT (F:=fun v=>Value.int .i64 ((l v:Nat):Int)) h
theorem sh(N:Nat)(l:Nat->Nat):(je N l).length=N:=by simp [je]
theorem sb{N:Nat}{l:Nat->Nat}{v x:Nat}:(je N l).set v (.int .i64 (x:Nat))=je N (cD l v x):=by
 have:=iJ (N:=N) (k:=v) (F:=fun v=>Value.int .i64 ((l v:Nat):Int)) (F':=fun u=>Value.int .i64 ((cD l v x u:Nat):Int)) (fun u _ hu=>by unfold cD;rw [if_neg hu])
 unfold je
 rw [<-this]
 simp [cD]
def Rlx(B:List Arc)(k:Nat)(l:Nat->Nat):Prop:= ∀j,j<k->l (B.getD j default).s<FAR->l (B.getD j default).t<=l (B.getD j default).s+(B.getD j default).w
theorem rlx_all{B:List Arc}{l:Nat->Nat}(h:Rlx B B.length l): ∀a∈B,l a.s<FAR->l a.t<=l a.s+a.w:=by
 intro a ha
 obtain⟨i,hi,e⟩:=List.mem_iff_getElem.1 ha
 have:=h i hi
 rwa [xu,xw hi,Option.getD_some,e]at this
end Go.Ab

end

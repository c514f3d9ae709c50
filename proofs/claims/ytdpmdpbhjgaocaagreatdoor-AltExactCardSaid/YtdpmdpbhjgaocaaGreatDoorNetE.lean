/- Nets, cells, flags: what the functions do (part 5). -/
import Derived.Test.YtdpmdpbhjgaocaaGreatDoorNetD
import Derived.ChangeSlices
import Derived.ChangeArms
import Derived.ChangeSame
import Derived.OpenShut
open Nat renaming zero_le->xt,mul_one->xC,min_eq_left->xF,le_refl->xG
open List renaming length_take->xu,getD_eq_getElem?_getD->xw,getElem?_eq_getElem->xx,size_toArray->xz,take_succ_eq_append_getElem->xB,take_of_length_le->xH,drop_zero->xI,flatMap_eq_foldl->xJ,take_succ_cons->xL,take->xM,drop->xN
open Int renaming cast_ofNat_Int->xy
open Bool renaming and_true->xD
open Go.Ab.Tryz renaming abEnv->xK
set_option maxHeartbeats 4000000
set_option linter.defProp false
set_option linter.unusedVariables false
set_option linter.unusedSimpArgs false
section
namespace Go.Ab
open Go.Proofs
set_option maxRecDepth 10000
open Tryz in
def Tryz.FFrl114:=aj a1<|aj s1<|aj z1<|aj n1<|aj u2<|aj a2<|aj s2<|aj z2<|aj i2<|aj u3<|aj a3<|aj s3<|aj z3<|aj i3<|aj u4<|aj a4<|aj s4<|aj z4<|aj n4<|aj u5<|aj a5<|aj s5<|aj z5<|aj i5<|aj u6<|aj a6<|aj s6<|aj z6<|aj i6<|aj a7<|aj s7<|aj z7<|aj i7<|aj n7<|aj p7<|aj ff7<|aj d7<|aj a8<|aj s8<|aj z8<|aj i8<|aj n8<|aj p8<|aj ff8<|aj d8<|aj u9<|aj a9<|aj s9<|aj z9<|aj n9<|aj u10<|aj a10<|aj s10<|aj z10<|aj n10<|aj u11<|aj a11<|aj s11<|aj z11<|aj n11<|aj u12<|aj a12<|aj s12<|aj z12<|aj i12<|aj a13<|aj s13<|aj z13<|aj i13<|aj n13<|aj p13<|aj ff13<|aj d13<|aj a14<|aj s14<|aj z14<|aj i14<|aj n14<|aj p14<|aj ff14<|aj d14<|aj u15<|aj a15<|aj s15<|aj z15<|aj q15<|aj i15<|aj n15<|aj u16<|aj a16<|aj s16<|aj z16<|aj q16<|aj i16<|aj n16<|aj u17<|aj a17<|aj s17<|aj z17<|aj q17<|aj i17<|aj n17<|aj a18<|aj s18<|aj z18<|aj i18<|aj n18<|aj p18<|aj ff18<|aj d18<|aj a19<|aj s19<|aj z19<|aj i19<|aj n19<|aj p19<|aj ff19<|aj d19<|aj u25<|aj a25<|aj s25<|aj z25<|aj q25<|aj n25<|aj u28<|aj a28<|aj s28<|aj z28<|aj q28<|aj n28<|aj a30<|aj s30<|aj z30<|aj i30<|aj n30<|aj p30<|aj ff30<|aj d30<|aj a59<|aj s59<|aj z59<|aj i59<|aj n59<|aj p59<|aj ff59<|aj d59<|aj u197<|aj a197<|aj s197<|aj z197<|aj i197<|aj u263<|aj a263<|aj s263<|aj z263<|aj i263<|aj a274<|aj s274<|aj z274<|aj i274<|aj n274<|aj p274<|aj ff274<|aj d274<|aj u275<|aj a275<|aj s275<|aj z275<|aj n275<|aj a277<|aj s277<|aj z277<|aj i277<|aj n277<|aj u279<|aj a279<|aj s279<|aj z279<|aj i279<|aj a280<|aj s280<|aj z280<|aj n280<|aj u281<|aj a281<|aj s281<|aj z281<|aj q281<|aj i281<|aj n281<|aj u282<|aj a282<|aj s282<|aj z282<|aj i282<|aj u283<|aj a283<|aj s283<|aj z283<|aj i283<|aj a285<|aj s285<|aj z285<|aj i285<|aj n285<|aj p285<|aj ff285<|d285
theorem least_ok {h0:Hp} (ok:h0.t.Sized h0.n) {γ:Gra} (hγ:Good γ) {vx vy va:Value} (ga:cm h0 vx vy va γ) {s:Nat} (hs:s<γ.nodes) (hD: ∀v,v<γ.nodes->IsD γ.arcs s v (dOf γ.arcs s v)):
 Ret xK 14 [gf γ vx vy va,.int .i64 s] h0 fun r h'=>Gr h0 h'/\ay h' 1 (encI .i64) r (iU γ.arcs γ.nodes s)/\ ∀c,av r c->h0.n<=c:=by
 have S:=Si ok
 have n1:=hγ.n1
 have n2:=hγ.n2
 have many:=hγ.many
 have fx:=ga.X.fl
 have fy:=ga.Y.fl
 have fa:=ga.A.fl
 have hF:=g8
 refine ac (n:=78) (rs:=[.tmp 4]) rfl Tryz.e14 rfl rfl rfl (lbt rfl) ?_
 simp only [BS,Nat.reduceLT,gf]
 refine ag (bu (by intro x e;cases e)) S ?_;clear S;intro h b2 S n_b2;simp only [ae]at S
 simp only [BS]
 replace S:=S.nilG (k:=1)
 refine aT (fun(i:Nat) ρ h=>i<=γ.nodes/\ ∃(vR:Value),St NoM h0 h [(b2,.row [.int .i64 γ.nodes,vx,vy,va] 1)] [(vR,1,List.replicate i (.int .i64 72057594037927936))]/\ρ 1=.int .i64 s/\ρ 2=ptrTo b2/\ρ 5=vR/\ρ 6=.int .i64 i) (fun i=>γ.nodes-i) ?_ 0 _ _ ?_
 . clear S
   intro i ih ρ h ⟨hi,vR,S,r1,r2,r5,r6⟩
   by_cases hlt:i<γ.nodes
   . have w:ar .i64 ((i:Int)+1)=((i+1:Nat):Int):=by rw [wrap64]<;>omega
     simp only [BS,LB,Nat.reduceLT,Nat.reduceEqDiff,Tryz.FFrl114,r2,r5,r6,aH,hlt,S.ld (b:=b2) (o:=0) m0 rfl]
     refine ag (bH (by exact Tryz.u25) (by exact Tryz.e2E) (by decide) (by rfl)) S ?_;clear S;intro h bt S n_bt;simp only [LC,aR,bj,ae,Nat.reduceMul,Nat.reduceAdd,Nat.zero_mul,Nat.zero_add,xC,Nat.one_mul]at S
     simp only [BS,LB,Nat.reduceLT,Nat.reduceEqDiff]
     have src:aJ h 1 (.slice (some ⟨bt,0,none⟩) 1 1)=some (1,[.int .i64 72057594037927936]):=by simp only [aJ];rw [S.lds (b:=bt) (o:=0) (n:=1*1) m0 (lbt rfl)];rfl
     replace S:=S.drop1
     refine eo (S.grow (j:=0) (m:=1) (new:=[.int .i64 72057594037927936]) rfl Tryz.u25 Tryz.e2E (by decide) Tryz.n25 src rfl (by decide) rfl (by simp;omega)) ?_
     clear S src;rintro h vR' S
     simp only [LC,<-List.replicate_succ']at S
     simp only [BS,LB,Nat.reduceLT,Nat.reduceEqDiff,r6,w]
     exact ih (i+1) _ _ (by omega) ⟨by omega,vR',S,by simp [aa,r1],by simp [aa,r2,an],by simp [aa],by simp [aa]⟩
   . have hiN:i=γ.nodes:=by omega
     subst hiN
     have c1: ¬((s:Int)<0):=by omega
     have c2: ¬((γ.nodes:Int)<=(s:Int)):=by omega
     obtain⟨bl,ev,S2⟩:=S.toL (by intro e;have:=congrArg List.length e;simp at this;omega)
     clear S
     have S:=S2
     clear S2
     rw [List.length_replicate]at ev
     subst ev
     have e0:List.replicate γ.nodes (Value.int .i64 72057594037927936)=je γ.nodes fun _=>FAR:=by
      unfold je
      rw [List.map_const',List.length_range];rfl
     rw [e0]at S
     have ips:fh (.int .i64 (s:Int)) γ.nodes=some s:=iu hs
     simp only [BS,LB,Nat.reduceLT,Nat.reduceEqDiff,Tryz.FFrl114,r1,r2,r5,r6,aH,hlt,c1,c2,ips,S.ld (b:=b2) (o:=0) m1 rfl]
     refine aE (aA S (i:=0) rfl Tryz.s2 bD (by rw [sh];omega) ono) ?_
     clear S;rintro h ⟨S,_⟩
     have e1:((0:Int))=((0:Nat):Int):=rfl
     simp only [LC]at S
     rw [e1,sb]at S
     simp only [BS]
     have L0:Ls γ.arcs s γ.nodes (cD (fun _=>FAR) s 0):=by
      refine⟨fun v=>?_,fun v=>?_,by simp [cD]⟩
      . unfold cD;split
        . omega
        . exact xG _
      . unfold cD;split
        . rename_i e;subst e;exact .inr .nil
        . exact .inl rfl
     refine aT (fun(a:(Nat->Nat)×Bool) ρ h=>Ls γ.arcs s γ.nodes a.1/\St NoM h0 h [(bl,.row (je γ.nodes a.1) 1),(b2,.row [.int .i64 γ.nodes,vx,vy,va] 1)] []/\(a.2=false->Rlx γ.arcs γ.arcs.length a.1)/\ρ 2=ptrTo b2/\ρ 5=.slice (some ⟨bl,0,some 1⟩) γ.nodes γ.nodes/\ρ 7=.bool a.2) (fun a=>2*sumTo a.1 γ.nodes+a.2.toNat) ?_ (cD (fun _=>FAR) s 0,true) _ _ ?_
     . clear S L0 e0 r1 r2 r5 r6 hi ih
       rintro⟨l,more⟩ ih ρ h ⟨hL,S,hr,r2,r5,r7⟩
       cases more with
       | false=>
         simp only [BS,LB,ab,Nat.reduceLT,Nat.reduceEqDiff,r5,r7]
         have row:=S.row (b:=bl) m0
         have ec:je γ.nodes l=ints (iU γ.arcs γ.nodes s):=by
          unfold je iU
          rw [tG,List.map_map]
          refine List.map_congr_left fun v hv=>?_
          have hv:=List.mem_range.1 hv
          have:=hL.isD (rlx_all (hr rfl)) (hD v hv)
          have this:l v=dOf γ.arcs s v:=this
          show Value.int .i64 ((l v:Nat):Int)=_
          rw [this];rfl
         rw [ec]at row
         refine⟨S.gr,.inr ⟨bl,0,some 1,γ.nodes,by rw [jn],by rw [jn];omega,?_⟩,fun c hc=>?_⟩
         . rw [row.load (by rw [dE];omega),xI,xC,<-dE (iU γ.arcs γ.nodes s),List.take_length];rfl
         . obtain rfl:bl=c:=hc
           exact(S.own _ m0).1.elim (fun h=>h) (fun h=>h.elim)
       | true=>
         simp only [BS,LB,Nat.reduceLT,r7]
         refine aT (fun(k:Nat) ρ h=>k<=γ.arcs.length/\ ∃(l':Nat->Nat) (ch:Bool),Ls γ.arcs s γ.nodes l'/\St NoM h0 h [(bl,.row (je γ.nodes l') 1),(b2,.row [.int .i64 γ.nodes,vx,vy,va] 1)] []/\((ch=false/\l'=l/\Rlx γ.arcs k l)\/(ch=true/\sumTo l' γ.nodes<sumTo l γ.nodes))/\ρ 2=ptrTo b2/\ρ 5=.slice (some ⟨bl,0,some 1⟩) γ.nodes γ.nodes/\ρ 7=.bool ch/\ρ 8=.int .i64 k) (fun k=>γ.arcs.length-k) ?_ 0 _ _ ?_
         . clear S r2 r5 r7 hL
           intro k ihk ρ h ⟨hk,l',ch,hL,S,hc,r2,r5,r7,r8⟩
           have wk:ar .i64 ((k:Int)+1)=((k+1:Nat):Int):=by rw [wrap64]<;>omega
           have gaC:=ga.A.gr S.gr
           by_cases hkt:k<γ.arcs.length
           . obtain⟨c3,o3,x3,y3⟩:=gaC.ix (kd:=.i64) d6 hkt
             have am:=List.getElem_mem hkt
             obtain⟨a1,a2,a3⟩:=hγ.arcs _ am
             have ags:γ.arcs.getD k default=γ.arcs[k]:=by simp [xw,hkt]
             generalize γ.arcs[k]=a at am a1 a2 a3 ags y3
             have d1:=hL.le a.s
             have d2:=hL.le a.t
             simp only [BS,LB,Nat.reduceLT,Nat.reduceEqDiff,Tryz.FFrl114,r2,r8,gaC.lenq,aH,hkt,x3,y3,S.ld (b:=b2) (o:=3) m1 rfl]
             refine ag aD S ?_;clear S;intro h b9 S n_b9
             simp only [BS,LB,Nat.reduceLT,Nat.reduceEqDiff,cC]
             refine aE (S.store (i:=0) rfl ?_ ?_ rfl rfl ?_ ono) ?_
             . exact(by exact Tryz.s59)
             . exact(by intro x e;cases e)
             . exact lbt rfl
             clear S;rintro h ⟨S,mo⟩;clear mo;simp only [LC,ae,lay,xM,xN,Nat.reduceAdd]at S
             have ips:fh (.int .i64 (a.s:Int)) γ.nodes=some a.s:=iu a1
             have ipt:fh (.int .i64 (a.t:Int)) γ.nodes=some a.t:=iu a2
             have lds:=S.ld (b:=bl) (o:=a.s) m1 (tW a1)
             have ldt:=S.ld (b:=bl) (o:=a.t) m1 (tW a2)
             have wsum:ar .i64 ((l' a.s:Int)+(a.w:Int))=((l' a.s+a.w:Nat):Int):=by rw [wrap64]<;>omega
             simp only [BS]
             refine aw (aC rfl) (q:=0) (ps:=[]) (by kernel_rfl) ?_
             by_cases e1:l' a.s<FAR
             . have e1':(l' a.s:Int)<72057594037927936:=by omega
               by_cases e2:l' a.s+a.w<l' a.t
               . have e2':((l' a.s+a.w:Nat):Int)<(l' a.t:Int):=by omega
                 simp only [BS,LB,cls,Nat.reduceLT,Nat.reduceEqDiff,Nat.reduceAdd,Nat.reducePow,Nat.reduceDiv,Nat.reduceMod,Nat.reduceLeDiff,Tryz.FFrl114,r5,ips,ipt,lds,ldt,wsum,e1',e2',S.ld (b:=b9) (o:=0) m0 rfl,S.ld (b:=b9) (o:=1) m0 rfl,S.ld (b:=b9) (o:=2) m0 rfl]
                 refine aw (aC rfl) (q:=0) (ps:=[]) (by kernel_rfl) ?_
                 simp only [BS,LB,cls,Nat.reduceLT,Nat.reduceEqDiff,Nat.reduceAdd,Nat.reducePow,Nat.reduceDiv,Nat.reduceMod,Nat.reduceLeDiff,Tryz.FFrl114,r5,ips,ipt,lds,wsum,S.ld (b:=b9) (o:=0) m0 rfl,S.ld (b:=b9) (o:=1) m0 rfl,S.ld (b:=b9) (o:=2) m0 rfl]
                 refine df (aA S (i:=1) rfl Tryz.s2 bD (by rw [sh];omega) ono) ?_
                 clear S lds ldt;rintro h ⟨S,_⟩
                 simp only [LC,sb]at S
                 simp only [BS,LB,Nat.reduceLT,Nat.reduceEqDiff,Nat.reduceAdd,r8,wk]
                 have hsum:=sum_upd (l:=l') (v:=a.t) (x:=l' a.s+a.w) a2
                 refine ihk (k+1) _ _ (by omega) ⟨by omega,_,true,hL.step am e1 e2,S.drop1,.inr ⟨rfl,?_⟩,by simp [aa,r2,an],by simp [aa,r5],by simp [aa],by simp [aa]⟩
                 rcases hc with⟨_,rfl,_⟩|⟨_,h⟩<;>omega
               . have e2': ¬((l' a.s+a.w:Nat):Int)<(l' a.t:Int):=by omega
                 simp only [BS,LB,cls,Nat.reduceLT,Nat.reduceEqDiff,Nat.reduceAdd,Nat.reducePow,Nat.reduceDiv,Nat.reduceMod,Nat.reduceLeDiff,Tryz.FFrl114,r5,r8,ips,ipt,lds,ldt,wsum,e1',e2',wk,S.ld (b:=b9) (o:=0) m0 rfl,S.ld (b:=b9) (o:=1) m0 rfl,S.ld (b:=b9) (o:=2) m0 rfl]
                 refine ihk (k+1) _ _ (by omega) ⟨by omega,_,ch,hL,S.drop1,hc.imp (fun⟨x,y,z⟩=>⟨x,y,fun j hj=>?_⟩) id,by simp [aa,r2,an],by simp [aa,r5],by simp [aa,r7],by simp [aa]⟩
                 by_cases ej:j=k
                 . subst ej;subst y;rw [ags];intro _;omega
                 . exact z j (by omega)
             . have e1': ¬(l' a.s:Int)<72057594037927936:=by omega
               simp only [BS,LB,cls,Nat.reduceLT,Nat.reduceEqDiff,Nat.reduceAdd,Nat.reducePow,Nat.reduceDiv,Nat.reduceMod,Nat.reduceLeDiff,Tryz.FFrl114,r5,r8,ips,lds,e1',wk,S.ld (b:=b9) (o:=0) m0 rfl,S.ld (b:=b9) (o:=1) m0 rfl,S.ld (b:=b9) (o:=2) m0 rfl]
               refine ihk (k+1) _ _ (by omega) ⟨by omega,_,ch,hL,S.drop1,hc.imp (fun⟨x,y,z⟩=>⟨x,y,fun j hj=>?_⟩) id,by simp [aa,r2,an],by simp [aa,r5],by simp [aa,r7],by simp [aa]⟩
               by_cases ej:j=k
               . subst ej;subst y;rw [ags];intro h;exact absurd h e1
               . exact z j (by omega)
           . simp only [BS,LB,ab,Nat.reduceLT,Nat.reduceEqDiff,Tryz.FFrl114,r2,r5,r8,gaC.lenq,aH,hkt,S.ld (b:=b2) (o:=3) m1 rfl]
             have hk':k=γ.arcs.length:=by omega
             subst hk'
             refine ih (l',ch) _ _ ?_ ⟨hL,S,fun h=>?_,by simp [aa,r2,an],by simp [aa,r5],by simp [aa,r7]⟩
             . rcases hc with⟨rfl,rfl,_⟩|⟨rfl,h⟩
               . simp
               . simp;omega
             . rcases hc with⟨_,rfl,h⟩|⟨h2,_⟩
               . exact h
               . exact absurd (h2.symm.trans h) (by decide)
         . exact⟨xt _,l,false,hL,S,.inl ⟨rfl,rfl,fun j hj=>by omega⟩,by simp [aa,r2,an],by simp [aa,r5],by simp [aa],by simp [aa]⟩
     . exact⟨L0,S,fun h=>(by cases h),by simp [aa,r2,an],by simp [aa,r5],by simp [aa]⟩
 . exact⟨xt _,_,S,by simp [aa,aQ,bO],by simp [aa,an],by simp [aa],by simp [aa]⟩
open Tryz in
def Tryz.FFri17:=aj a1<|aj s1<|aj z1<|aj n1<|aj u2<|aj a2<|aj s2<|aj z2<|aj i2<|aj u3<|aj a3<|aj s3<|aj z3<|aj i3<|aj u4<|aj a4<|aj s4<|aj z4<|aj n4<|aj u5<|aj a5<|aj s5<|aj z5<|aj i5<|aj u6<|aj a6<|aj s6<|aj z6<|aj i6<|aj a7<|aj s7<|aj z7<|aj i7<|aj n7<|aj p7<|aj ff7<|aj d7<|aj a8<|aj s8<|aj z8<|aj i8<|aj n8<|aj p8<|aj ff8<|aj d8<|aj u40<|aj a40<|aj s40<|aj z40<|aj q40<|n40
theorem wh {h0:Hp} (ok:h0.t.Sized h0.n) {u v:Value} {l m:List Int} (hu:ay h0 1 (encI .i64) u l) (hv:ay h0 1 (encI .i64) v m) (hl:l.length<1000000):aZ xK 17 [u,v] h0 (.bool (decide (l=m))):=by
 have S:=Si ok
 by_cases hlen:l.length=m.length
 . have hle:((l.length:Int)=(m.length:Int)):=by omega
   refine ac (n:=26) (rs:=[.tmp 4]) rfl Tryz.e17 rfl rfl rfl (lbt rfl) ?_
   simp only [BS,LB,Nat.reduceLT,Nat.reduceEqDiff,Tryz.FFri17,hu.lenq,hv.lenq,hle]
   refine aT (fun(i:Nat) ρ h=>i<=l.length/\l.take i=m.take i/\Gr h0 h/\ρ 0=u/\ρ 1=v/\ρ 5=.int .i64 i) (fun i=>l.length-i) ?_ 0 _ _ ?_
   . clear S
     intro i ih ρ h ⟨hi,ht,S,r0,r1,r5⟩
     by_cases hlt:i<l.length
     . obtain⟨c,o,hidx,hld⟩:=(hu.gr S).ix (kd:=.i64) (cZ .i64) hlt
       obtain⟨c2,o2,hidx2,hld2⟩:=(hv.gr S).ix (kd:=.i64) (cZ .i64) (hlen▸hlt)
       have w:ar .i64 ((i:Int)+1)=((i+1:Nat):Int):=by rw [wrap64]<;>omega
       by_cases he:l[i]=m[i]
       . simp only [BS,LB,Nat.reduceLT,Nat.reduceEqDiff,Tryz.FFri17,r0,r5,hu.lenq,aH,hlt]
         refine aw (aC rfl) (q:=0) (ps:=[]) (by kernel_rfl) ?_
         simp only [BS,LB,cls,Nat.reduceLT,Nat.reduceEqDiff,Nat.reduceAdd,Nat.reducePow,Nat.reduceDiv,Nat.reduceMod,Nat.reduceLeDiff,Tryz.FFri17,r0,r1,r5,hidx,hld,hidx2,hld2,encI,he,w]
         refine ih (i+1) _ _ (by omega) ⟨by omega,?_,S,by simp [aa,r0],by simp [aa,r1],by simp [aa]⟩
         rw [xB hlt,xB (hlen▸hlt),ht,he]
       . have hne:l≠m:=by rintro rfl;exact he rfl
         simp only [BS,LB,Nat.reduceLT,Nat.reduceEqDiff,Tryz.FFri17,r0,r5,hu.lenq,aH,hlt]
         refine aw (aC rfl) (q:=0) (ps:=[]) (by kernel_rfl) ?_
         simp only [BS,LB,cls,ab,Nat.reduceLT,Nat.reduceEqDiff,Nat.reduceAdd,Nat.reducePow,Nat.reduceDiv,Nat.reduceMod,Nat.reduceLeDiff,Tryz.FFri17,r0,r1,r5,hidx,hld,hidx2,hld2,encI,he,hne]
         exact S
     . have hE:l=m:=by
        have e1:l.take i=l:=xH (by omega)
        have e2:m.take i=m:=xH (by omega)
        rw [e1,e2]at ht;exact ht
       subst hE
       simp only [BS,LB,ab,Nat.reduceLT,Nat.reduceEqDiff,Tryz.FFri17,r0,r5,hu.lenq,aH,hlt]
       exact S
   . exact⟨xt _,rfl,Gr.refl ok,by simp [aa,aQ],by simp [aa,aQ,bO],by simp [aa]⟩
 . have hne:l≠m:=by rintro rfl;exact hlen rfl
   have hle: ¬((l.length:Int)=(m.length:Int)):=by omega
   refine ac (n:=26) (rs:=[.tmp 4]) rfl Tryz.e17 rfl rfl rfl (lbt rfl) ?_
   simp only [BS,LB,ab,Nat.reduceLT,Nat.reduceEqDiff,Tryz.FFri17,hu.lenq,hv.lenq,hle,hne]
   exact S.gr
theorem ends_len{A:List Arc}{N s to:Nat}{al:Nat->Bool}{pi:Nat->Int}{σ:SS}{r:Fd}(hA: ∀a∈A,a.t<N/\a.w<=cP)(hN:N<=12)(hl:A.length<=100)(he:Ends A al pi to σ r):Sv A N s al pi σ->σ.ev.length<=σ.O.length*200->r.arcs.length<=12/\r.ev.length<=3000:=by
 induction he with
 | @none σ hn=>
   intro h hev
   have:=h.len
   exact⟨xt _,by show σ.ev.length<=3000;omega⟩
 | @hit σ k hp=>
   intro h hev
   have h1:=h.len
   have h2:=(h.bd to).2
   refine⟨by show(σ.P to).reverse.length<=12;rw [List.length_reverse];omega,?_⟩
   show(σ.ev++[_]).length<=3000
   simp;omega
 | @step σ v k r hp hne _ ih=>
   intro h hev
   obtain⟨h1,h2⟩:=h.next hA hp.1
   refine ih h1 ?_
   have e1:=uM A al pi v (cE σ v)
   have e2:(cE σ v).ev.length=σ.ev.length+1:=by show(σ.ev++[_]).length=_;simp
   rw [h2.O]
   show _<=(σ.O++[v]).length*200
   simp;omega
theorem found_len{γ:Gra}(hγ:Good γ){s to:Nat}(hs:s<γ.nodes){al:Nat->Bool}{pi:Nat->Int}{fd:Fd}(he:(s=to/\fd=⟨0,[],[]⟩)\/(s≠to/\Ends γ.arcs al pi to (eK pi s) fd)):fd.arcs.length<=12/\fd.ev.length<=3000:=by
 rcases he with⟨_,rfl⟩|⟨_,he⟩
 . exact⟨xt _,xt _⟩
 . refine ends_len (fun a ha=>⟨(hγ.arcs a ha).2.1,(hγ.arcs a ha).2.2⟩) hγ.n2 hγ.many he (pf hs) ?_
   have k0:(eK pi s).ev.length=0:=by unfold eK;rw [pU];rfl
   omega
open Tryz in
def Tryz.FFb123:=aj a1<|aj s1<|aj z1<|aj n1<|aj u2<|aj a2<|aj s2<|aj z2<|aj i2<|aj u3<|aj a3<|aj s3<|aj z3<|aj i3<|aj u4<|aj a4<|aj s4<|aj z4<|aj n4<|aj u5<|aj a5<|aj s5<|aj z5<|aj i5<|aj u6<|aj a6<|aj s6<|aj z6<|aj i6<|aj a7<|aj s7<|aj z7<|aj i7<|aj n7<|aj p7<|aj ff7<|aj d7<|aj a8<|aj s8<|aj z8<|aj i8<|aj n8<|aj p8<|aj ff8<|aj d8<|aj u9<|aj a9<|aj s9<|aj z9<|aj n9<|aj u10<|aj a10<|aj s10<|aj z10<|aj n10<|aj u11<|aj a11<|aj s11<|aj z11<|aj n11<|aj u12<|aj a12<|aj s12<|aj z12<|aj i12<|aj a13<|aj s13<|aj z13<|aj i13<|aj n13<|aj p13<|aj ff13<|aj d13<|aj a14<|aj s14<|aj z14<|aj i14<|aj n14<|aj p14<|aj ff14<|aj d14<|aj u15<|aj a15<|aj s15<|aj z15<|aj q15<|aj i15<|aj n15<|aj u16<|aj a16<|aj s16<|aj z16<|aj q16<|aj i16<|aj n16<|aj u17<|aj a17<|aj s17<|aj z17<|aj q17<|aj i17<|aj n17<|aj a18<|aj s18<|aj z18<|aj i18<|aj n18<|aj p18<|aj ff18<|aj d18<|aj a19<|aj s19<|aj z19<|aj i19<|aj n19<|aj p19<|aj ff19<|aj d19<|aj a20<|aj s20<|aj z20<|aj q20<|aj n20<|aj u21<|aj a21<|aj s21<|aj z21<|aj i21<|aj u22<|aj a22<|aj s22<|aj z22<|aj q22<|aj n22<|aj a24<|aj s24<|aj z24<|aj i24<|aj n24<|aj p24<|aj ff24<|aj d24<|aj u25<|aj a25<|aj s25<|aj z25<|aj q25<|aj n25<|aj a27<|aj s27<|aj z27<|aj i27<|aj n27<|aj p27<|aj ff27<|aj d27<|aj u28<|aj a28<|aj s28<|aj z28<|aj q28<|aj n28<|aj a30<|aj s30<|aj z30<|aj i30<|aj n30<|aj p30<|aj ff30<|aj d30<|aj u32<|aj a32<|aj s32<|aj z32<|aj q32<|aj i32<|aj n32<|aj a34<|aj s34<|aj z34<|aj q34<|aj n34<|aj u38<|aj a38<|aj s38<|aj z38<|aj q38<|aj i38<|aj n38<|aj u40<|aj a40<|aj s40<|aj z40<|aj q40<|aj n40<|aj u44<|aj a44<|aj s44<|aj z44<|aj i44<|aj a46<|aj s46<|aj z46<|aj i46<|aj n46<|aj p46<|aj ff46<|aj d46<|aj u47<|aj a47<|aj s47<|aj z47<|aj q47<|aj n47<|aj a57<|aj s57<|aj z57<|aj i57<|aj n57<|aj p57<|aj ff57<|aj d57<|aj a59<|aj s59<|aj z59<|aj i59<|aj n59<|aj p59<|aj ff59<|aj d59<|aj u71<|aj a71<|aj s71<|aj z71<|aj q71<|aj n71<|aj a96<|aj s96<|aj z96<|aj i96<|aj n96<|aj p96<|aj ff96<|aj d96<|aj u146<|aj a146<|aj s146<|aj z146<|aj q146<|aj n146<|aj a148<|aj s148<|aj z148<|aj i148<|aj n148<|aj p148<|aj ff148<|aj d148<|aj u197<|aj a197<|aj s197<|aj z197<|aj i197<|aj u263<|aj a263<|aj s263<|aj z263<|aj i263<|aj a274<|aj s274<|aj z274<|aj i274<|aj n274<|aj p274<|aj ff274<|aj d274<|aj u275<|aj a275<|aj s275<|aj z275<|aj n275<|aj a277<|aj s277<|aj z277<|aj i277<|aj n277<|aj u279<|aj a279<|aj s279<|aj z279<|aj i279<|aj a280<|aj s280<|aj z280<|aj n280<|aj u281<|aj a281<|aj s281<|aj z281<|aj q281<|aj i281<|aj n281<|aj u282<|aj a282<|aj s282<|aj z282<|aj i282<|aj u283<|aj a283<|aj s283<|aj z283<|aj i283<|aj a285<|aj s285<|aj z285<|aj i285<|aj n285<|aj p285<|aj ff285<|d285
theorem worksE_ok{h0:Hp}(ok:h0.t.Sized h0.n):aZ xK 10 [] h0 (.bool true):=ret_orc rfl ⟨rfl,Gr.refl ok⟩
theorem SlW.grE{h h':Hp}{kd:IntKind}{v:Value}{xs:List Int}(s:SlW h kd v xs)(g:Gr h h'):SlW h' kd v xs:=s.imp (fun h=>h) (fun⟨b,o,c,h1,h2,h3⟩=>⟨b,o,c,h1,h2,g.load h3⟩)
theorem rq {h0:Hp} (ok:h0.t.Sized h0.n) {vB vM vN:Value} {w0 f t a:Int} {B ms:List Int} (hB:SlW h0 .u8 vB B) (hM:SlW h0 .u8 vM ms) (hMr: ∀x∈ms,0<=x/\x<=255) (hml:ms.length<=9223372036854775807) (fN:Fl vN):
 aZ xK 3 [.agg ⟨[vB,vM,.int .i64 w0,.int .i64 f,.int .i64 t,.int .i64 a,vN]⟩] h0 (.bool true):=by
 have S:=Si ok
 have fB:=hB.sl.fl
 have fM:=hM.sl.fl
 refine ac (n:=153) (rs:=[.tmp 2]) rfl Tryz.e3 rfl rfl rfl (lbt rfl) ?_
 simp only [BS,Nat.reduceLT]
 refine ag (bu (by intro x e;cases e)) S ?_;clear S;intro h b1 S n_b1;simp only [ae]at S
 simp only [BS,LB,Nat.reduceLT,Nat.reduceEqDiff,Tryz.FFb123,xI,xL,List.take_zero,S.lds (b:=b1) (o:=0) (n:=7) m0 (lbt rfl)]
 refine step_ret (wL S.ok (hB.grE S.gr) fM fN) ?_;intro v h ⟨g,γ,vx,vy,va,er,hγ,ga,_⟩;replace S:=S.call g;clear g
 subst er
 have fx:=ga.X.fl
 have fy:=ga.Y.fl
 have fa:=ga.A.fl
 have R1:=S.row (b:=b1) m0
 have g0:=S.gr
 have okA:=S.ok
 clear S
 have S:=Si okA
 simp only [BS,Tryz.FFb123,gf]
 refine ag aD S ?_;clear S;intro h b3 S n_b3
 simp only [BS,LB,Nat.reduceLT,Nat.reduceEqDiff]
 refine aE (S.store (i:=0) rfl Tryz.s30 (by intro x e;cases e) rfl (by simp only [ae,List.all_cons,List.all_nil,fx.2.1,fy.2.1,fa.2.1,xD];rfl) (lbt rfl) ono) ?_
 clear S;rintro h ⟨S,mo⟩;clear mo
 simp only [LC,ae,lay,xM,xN,Nat.reduceAdd]at S
 have R3:=S.row (b:=b3) m0
 replace R1:=R1.gr S.gr
 replace ga:=ga.gr S.gr
 replace g0:=g0.trans S.gr
 have okA:=S.ok
 clear S
 have S:=Si okA
 have l3:h.load b3 0 4=some [.int .i64 γ.nodes,vx,vy,va]:=R3.load (xG 4)
 simp only [BS,LB,Nat.reduceLT,Nat.reduceEqDiff,Tryz.FFb123,l3]
 refine step_ret (netNew_ok S.ok hγ (ga.gr S.gr)) ?_
 rintro v h ⟨p,rfl,g,hp⟩
 obtain⟨bp,rfl⟩: ∃b,p=ptrTo b:=by obtain⟨b,_,_,_,_,_,e,_⟩:=hp.ex;exact⟨b,e⟩
 replace S:=S.call g;clear g
 simp only [BS,LB,Nat.reduceLT,Nat.reduceEqDiff,Tryz.FFb123]
 refine au (worksE_ok S.ok) ?_
 intro h g
 replace S:=S.call g
 replace hp:=hp.gr g;clear g
 replace ga:=ga.gr S.gr
 replace R1:=R1.gr S.gr
 replace R3:=R3.gr S.gr
 replace g0:=g0.trans S.gr
 have okA:=S.ok
 clear S l3
 have S:=Si okA
 rename Hp=>hX
 have l1:hX.load b1 0 7=some [vB,vM,.int .i64 w0,.int .i64 f,.int .i64 t,.int .i64 a,vN]:=R1.load (xG 7)
 have l3:hX.load b3 0 4=some [.int .i64 γ.nodes,vx,vy,va]:=R3.load (xG 4)
 have l30:=R3.load1 (o:=0) rfl
 have n1:=hγ.n1
 have n2:=hγ.n2
 simp only [BS,LB,Nat.reduceLT,Nat.reduceEqDiff,Tryz.FFb123,l1,l30]
 refine step_ret (places_ok S.ok fB (hM.grE g0) hMr hml fN n1 (by omega)) ?_
 rintro vl h ⟨g,l,sl,hl,hl1,hl6,_⟩
 replace S:=S.call g;clear g
 simp only [BS,LB,Nat.reduceLT,Nat.reduceEqDiff]
 refine step_ret (tabOf_ok S.ok hγ (hp.gr S.gr) sl (by omega)) ?_
 rintro pt h ⟨g,hT⟩
 replace hT:=(hT.resolve_left (fun h=>h.1 hl)).2
 obtain⟨bt,et⟩: ∃b,pt=ptrTo b:=by obtain⟨b,_,_,_,e,_⟩:=hT.ex;exact⟨b,e⟩
 subst et
 replace S:=S.call g;clear g
 simp only [BS,LB,Nat.reduceLT,Nat.reduceEqDiff,Tryz.FFb123,S.gr.load l1,S.gr.load l30]
 refine step_ret (v8 S.ok fB fM fN n1 (by omega)) ?_
 rintro r h ⟨g,s,u,a',hs,hu,rfl⟩
 replace S:=S.call g
 replace hT:=hT.gr g;clear g
 simp only [BS,Tryz.FFb123]
 have gY:=S.gr
 have okY:=S.ok
 clear S
 have S:=Si okY
 refine ag aD S ?_;clear S;intro h b7 S n_b7
 simp only [BS,LB,Nat.reduceLT,Nat.reduceEqDiff]
 refine aE (S.store (i:=0) rfl Tryz.s24 (by intro x e;cases e) rfl rfl (lbt rfl) ono) ?_
 clear S;rintro h ⟨S,mo⟩;clear mo
 simp only [LC,ae,lay,xM,xN,Nat.reduceAdd]at S
 have eT:=fun {s:Nat} (hs:s<γ.nodes) (v:Nat)=>exTo okA hγ hp hs v
 have eF:=fun {s:Nat} (hs:s<γ.nodes) (v:Nat)=>exFrom okA hγ hp hs v
 have gZ:=gY.trans S.gr
 have ls:=least_ok S.ok hγ (ga.gr gZ) (s:=s) hs (fun v _=>by have:=eF hs v;rwa [lW]at this)
 unfold gf at ls
 simp only [BS,LB,Nat.reduceLT,Nat.reduceEqDiff,Tryz.FFb123,gZ.load l3,S.ld (b:=b7) (o:=1) m0 rfl]
 have k7:=(S.row (b:=b7) m0).lt S.ok
 refine step_ret ls ?_
 rintro vL h ⟨g,sL,nL⟩
 replace S:=S.call g
 clear g gZ ls
 simp only [BS,LB,Nat.reduceLT,Nat.reduceEqDiff]
 have R7:=S.row (b:=b7) m0
 have gYZ:=S.gr
 have okZ:=S.ok
 clear S
 rename Hp=>hZ
 have S:=St.init1 okZ (o:=.row [.int .i64 w0,.int .i64 s,.int .i64 u,.int .i64 a'] 1) R7
 have gXY:=gY
 refine aT (fun(to:Nat) ρ h=>to<=γ.nodes/\ ∃x:Int,St (· =b7) hZ h [(b7,.row [.int .i64 w0,.int .i64 s,.int .i64 x,.int .i64 a'] 1)] []/\ρ 3=ptrTo b3/\ρ 4=ptrTo bp/\ρ 6=ptrTo bt/\ρ 7=ptrTo b7/\ρ 8=vL/\ρ 9=.int .i64 to) (fun to=>γ.nodes-to) ?_ 0 _ _ ?_
 . clear S
   rintro to ih ρ h ⟨hto,x,S,r3,r4,r6,r7,r8,r9⟩
   have w:ar .i64 ((to:Int)+1)=((to+1:Nat):Int):=by rw [wrap64]<;>omega
   have gYh:=(gYZ.fr (M:=NoM)).trans S.fr (fun c e=>.inr (by subst e;exact n_b7))
   have gXh:=gXY.trans gYh.gr
   by_cases hlt:to<γ.nodes
   . simp only [BS,LB,Nat.reduceLT,Nat.reduceEqDiff,Tryz.FFb123,r3,r7,r9,gXh.load l30,aH,hlt]
     refine aE (aA S (i:=0) rfl Tryz.s3 bD (Nat.lt_of_succ_le (lbt rfl)) ono) ?_
     clear S gYh gXh;rintro h ⟨S,_⟩
     simp only [LC]at S
     have gYh:=((gYZ.fr (M:=NoM)).trans S.fr (fun c e=>.inr (by subst e;exact n_b7))).gr
     have gXh:=gXY.trans gYh
     simp only [BS,LB,Nat.reduceLT,Nat.reduceEqDiff,Tryz.FFb123,r4,r6,r7,xI,xL,List.take_zero,S.lds (b:=b7) (o:=0) (n:=4) m0 (lbt rfl)]
     have TT:TabQ h (ptrTo bt) γ.nodes l (toR γ l) (frR γ l):=.inl ⟨_,hT.gr gYh,fun i _=>jn _ _ _,fun i _=>jn _ _ _⟩
     have hW:iG γ.nodes γ.nodes l.length (s:Int) (to:Int)=0:=by
      unfold iG
      rw [if_neg (by omega),if_neg (by omega),if_pos ⟨by omega,rfl⟩]
     refine step_ret (altRun_ok S.ok hγ (hp.gr gXh) TT (by omega) bD (f:=s) (t:=to) (a:=a')) ?_
     rintro rv h ⟨g,cc,d,vA,vB',vE,rfl,post⟩
     have sL':=(sL.mo S.fr (fun c hc e=>by have:=nL c hc;omega)).gr g
     have gYh':=gYh.trans g
     have gXh':=gXh.trans g
     replace S:=S.call g
     obtain⟨y1,y2,y3⟩:Fl vA/\Fl vB'/\Fl vE:=by
      rcases post with⟨_,_,_,p3,p4,p5⟩|⟨_,_,_,_,_,_,_,_,_,_,_,sE,⟨_,_,_,q3,q4⟩|⟨_,_,_,q3,q4⟩⟩
      . rw [p3,p4,p5];exact⟨bF,bF,bF⟩
      . rw [q3,q4];exact⟨bF,bF,sE.fl⟩
      . exact⟨q3.fl,q4.fl,sE.fl⟩
     simp only [BS,LB,Nat.reduceLT,Nat.reduceEqDiff,Tryz.FFb123,ansV]
     have S2:=S
     have okR:=S.ok
     clear S gYh gXh TT g
     have S:=Si okR
     refine ag aD S ?_;clear S;intro h b10 S n_b10
     simp only [BS,LB,Nat.reduceLT,Nat.reduceEqDiff]
     refine aE (S.store (i:=0) rfl Tryz.s46 (by intro x e;cases e) rfl (by simp only [ae,List.all_cons,List.all_nil,y1.2.1,y2.2.1,xD];rfl) (lbt rfl) ono) ?_
     clear S;rintro h ⟨S,mo⟩;clear mo
     simp only [LC,ae,lay,xM,xN,Nat.reduceAdd]at S
     have lD:(iU γ.arcs γ.nodes s).length=γ.nodes:=jn _ _ _
     obtain⟨c9,o9,x9,z9⟩:=(sL'.gr S.gr).ix (kd:=.i64) (cZ .i64) (i:=to) (by omega)
     have e9:(iU γ.arcs γ.nodes s)[to]'(by omega)=(dOf γ.arcs s to:Nat):=by
      have:=rL (B:=γ.arcs) (s:=s) hlt
      rw [xw,xx (by omega)]at this
      exact this
     rw [e9]at z9
     replace z9:h.load c9 o9 1=some [.int .i64 (dOf γ.arcs s to:Nat)]:=z9
     have hDs:=eF hs to
     rw [lW]at hDs
     simp only [BS,LB,Nat.reduceLT,Nat.reduceEqDiff,Tryz.FFb123,r8,r9,x9,z9]
     have far:=g8
     have gE:=gXh'.trans S.gr
     have m3:=gE.load l3
     have m71:=S.gr.load ((S2.row (b:=b7) m0).load1 (o:=1) rfl)
     rcases post with⟨p0,p1,p2,p3,p4,p5⟩|⟨_,hne,s',w',fd,es,ew,hs',hw',_,he,sE,⟨hd,q1,q2,q3,q4⟩|⟨hd,q1,q2,q3,q4⟩⟩
     . have hse:s=to:=by
        rcases p0 with h|h
        . exact absurd hW h
        . omega
       have hd0:dOf γ.arcs s to=0:=by
        subst hse
        exact hDs.uniq (.inl ⟨by omega,.nil,fun w _=>xt w⟩)
       have hnf: ¬(72057594037927936:Int)<=(dOf γ.arcs s to:Nat):=by omega
       subst hse p2 p3 p4 p5
       rw [hW]at p1
       subst p1
       simp only [BS,LB,Nat.reduceLT,Nat.reduceEqDiff,Tryz.FFb123,r3,r7,r9,m3,m71,hnf,S.ld (b:=b10) (o:=0) m0 rfl,S.ld (b:=b10) (o:=1) m0 rfl,S.ld (b:=b10) (o:=2) m0 rfl,S.ld (b:=b10) (o:=3) m0 rfl]
       refine step_ret (qS S.ok hγ (ga.gr gE) (ids:=[]) (.inl ⟨rfl,rfl⟩) .nil hs (by simp)) ?_
       rintro rc h ⟨g,rfl⟩
       have x9':=x9
       have z9':=g.load z9
       rw [hd0]at z9'
       replace S:=S.call g
       simp only [BS,LB,Nat.reduceLT,Nat.reduceEqDiff,xy]
       refine aw (aC rfl) (q:=0) (ps:=[]) (by kernel_rfl) ?_
       simp only [BS,LB,cls,Nat.reduceLT,Nat.reduceEqDiff,Nat.reduceAdd,Nat.reducePow,Nat.reduceDiv,Nat.reduceMod,Nat.reduceLeDiff,xy,Tryz.FFb123,r8,r9,x9,z9',S.ld (b:=b10) (o:=0) m0 rfl,S.ld (b:=b10) (o:=1) m0 rfl,S.ld (b:=b10) (o:=2) m0 rfl,S.ld (b:=b10) (o:=3) m0 rfl]
       refine aw (aC rfl) (q:=0) (ps:=[(28,35)]) (by kernel_rfl) ?_
       simp only [BS,LB,cls,Nat.reduceLT,Nat.reduceEqDiff,Nat.reduceAdd,Nat.reducePow,Nat.reduceDiv,Nat.reduceMod,Nat.reduceLeDiff,Int.reduceLT,xy,Tryz.FFb123,r7,r9,g.load m71,w,S.ld (b:=b10) (o:=2) m0 rfl,S.ld (b:=b10) (o:=3) m0 rfl]
       refine⟨by simp only [aX,bg,aS,bz,aV,ne_eq,not_false_eq_true,bE,bR,bC,aW,bU,cL,aP,Nat.reduceLT,Nat.reduceEqDiff,reduceIte,xD,r3,r4,r6,r7,r8,r9,an,kD,lP],?_⟩
       exact ih (s+1) _ _ (by omega) ⟨by omega,_,S2.call S.gr,by simp [aa,r3,an],by simp [aa,r4,an],by simp [aa,r6,an],by simp [aa,r7,an],by simp [aa,r8],by simp [aa]⟩
     . have e1:s'=s:=by omega
       have e2:w'=to:=by omega
       subst e1 e2
       have hx:=(sG eT eF hl hγ hs hlt (fun e=>hne (by rw [e])) he).1
       have hdx:dOf γ.arcs s' w'=fd.dist:=hDs.uniq hx
       have hfar:(72057594037927936:Int)<=(dOf γ.arcs s' w':Nat):=by omega
       subst q1 q2 q3 q4
       simp only [BS,LB,ab,Nat.reduceLT,Nat.reduceEqDiff,Int.reduceLT,xy,Tryz.FFb123,r9,hfar,w,S.ld (b:=b10) (o:=0) m0 rfl,S.ld (b:=b10) (o:=1) m0 rfl,S.ld (b:=b10) (o:=2) m0 rfl,S.ld (b:=b10) (o:=3) m0 rfl]
       exact ih (w'+1) _ _ (by omega) ⟨by omega,_,S2.call S.gr,by simp [aa,r3,an],by simp [aa,r4,an],by simp [aa,r6,an],by simp [aa,r7,an],by simp [aa,r8],by simp [aa]⟩
     . have e1:s'=s:=by omega
       have e2:w'=to:=by omega
       subst e1 e2
       obtain⟨hx,hpa⟩:=sG eT eF hl hγ hs hlt (fun e=>hne (by rw [e])) he
       have hdx:dOf γ.arcs s' w'=fd.dist:=hDs.uniq hx
       have hpath:=hpa hd
       have hfl:=found_len hγ hs (.inr ⟨fun e=>hne (by rw [e]),he⟩)
       have hnf: ¬(72057594037927936:Int)<=(dOf γ.arcs s' w':Nat):=by omega
       subst q1 q2
       simp only [BS,LB,Nat.reduceLT,Nat.reduceEqDiff,Tryz.FFb123,r3,r7,r9,m3,m71,hnf,S.ld (b:=b10) (o:=0) m0 rfl,S.ld (b:=b10) (o:=1) m0 rfl,S.ld (b:=b10) (o:=2) m0 rfl,S.ld (b:=b10) (o:=3) m0 rfl]
       refine step_ret (qS S.ok hγ (ga.gr gE) (q3.gr S.gr) hpath hs (by omega)) ?_
       rintro rc h ⟨g,rfl⟩
       have z9':=g.load z9
       rw [hdx]at z9'
       replace S:=S.call g
       have n71:=g.load m71
       have n73:=S.gr.load ((S2.row (b:=b7) m0).load1 (o:=3) rfl)
       have z7:=bK S.ok n71
       have z10:=(S.row (b:=b10) m0).lt S.ok
       have hTq:=hT.gr (gYh'.trans S.gr)
       have cne: ¬(w':Int)=(s':Int):=by omega
       simp only [BS,LB,Nat.reduceLT,Nat.reduceEqDiff,S.ld (b:=b10) (o:=0) m0 rfl]
       refine aw (aC rfl) (q:=0) (ps:=[]) (by kernel_rfl) ?_
       simp only [BS,LB,cls,Nat.reduceLT,Nat.reduceEqDiff,Nat.reduceAdd,Nat.reducePow,Nat.reduceDiv,Nat.reduceMod,Nat.reduceLeDiff,Tryz.FFb123,r8,r9,x9,z9',S.ld (b:=b10) (o:=0) m0 rfl,S.ld (b:=b10) (o:=1) m0 rfl,S.ld (b:=b10) (o:=2) m0 rfl,S.ld (b:=b10) (o:=3) m0 rfl]
       refine aw (aC rfl) (q:=0) (ps:=[(28,35)]) (by kernel_rfl) ?_
       simp only [BS,LB,cls,Nat.reduceLT,Nat.reduceEqDiff,Nat.reduceAdd,Nat.reducePow,Nat.reduceDiv,Nat.reduceMod,Nat.reduceLeDiff,Tryz.FFb123,r6,r7,r9,n71,n73,cne,S.ld (b:=b10) (o:=2) m0 rfl,S.ld (b:=b10) (o:=3) m0 rfl]
       refine dz (qa S.ok hTq (fun i _=>jn _ _ _) (fun i _=>jn _ _ _) (by omega)) ?_
       rintro rA h1 ⟨g1,sA,bA⟩
       have v7:=aM g1 z7
       have v10:=aM g1 z10
       replace S:=S.call g1
       simp only [BS,LB,cls,Nat.reduceLT,Nat.reduceEqDiff,Nat.reduceAdd,Nat.reducePow,Nat.reduceDiv,Nat.reduceMod,Nat.reduceLeDiff]
       have la:(actL γ.nodes l.length (toR γ l) (frR γ l) (s':Int) (w':Int) a').length<=16:=by unfold actL;rw [xu];omega
       refine cN (wh S.ok (rj (q4.gr S.gr)) (rj sA) (by rw [List.length_map];omega)) ?_
       intro h2 g2
       replace S:=S.call g2
       simp only [BS,LB,cls,Nat.reduceLT,Nat.reduceEqDiff,Nat.reduceAdd,Nat.reducePow,Nat.reduceDiv,Nat.reduceMod,Nat.reduceLeDiff,r9,w]
       refine⟨by simp only [aX,bg,aS,bz,aV,ne_eq,not_false_eq_true,bE,bR,bC,aW,bU,cL,aP,Nat.reduceLT,Nat.reduceEqDiff,reduceIte,xD,r3,r4,r6,r7,r8,r9,an,bQ v7,bQ v10,bG v10],?_⟩
       exact ih (w'+1) _ _ (by omega) ⟨by omega,_,S2.call S.gr,by simp [aa,r3,an],by simp [aa,r4,an],by simp [aa,r6,an],by simp [aa,r7,an],by simp [aa,r8],by simp [aa]⟩
   . simp only [BS,LB,ab,Nat.reduceLT,Nat.reduceEqDiff,Tryz.FFb123,r3,r9,gXh.load l30,aH,hlt]
     exact g0.trans gXh
 . exact⟨xt _,_,S,by simp [aa,an],by simp [aa,an],by simp [aa,an],by simp [aa,an],by simp [aa],by simp [aa]⟩
end Go.Ab
end
section
namespace Go.Ab
open Go.ChangeShapes Go.WideShapes Go.RowKit
theorem rowAt_le{P:Program}{fits:TypeId->Bool}{d:Nat}{e:TypeId}{count off n:Nat}(h:rowAt P fits d e count off n=true):off<=count*P.cellsOf e:=by
 cases d with
 |zero=>cases h
 | succ d=>
   unfold rowAt at h
   simp only []at h
   split at h
   . cases h
   . rename_i hs
     have hpos:0<P.cellsOf e:=by omega
     have hdm:=Nat.div_add_mod off (P.cellsOf e)
     simp only [Bool.or_eq_true,Bool.and_eq_true,beq_iff_eq,decide_eq_true_eq]at h
     rcases h with⟨⟨h1,h2⟩,_⟩|⟨h1,_⟩
     . have:P.cellsOf e*(off/P.cellsOf e)<=P.cellsOf e*count:=Nat.mul_le_mul_left _ (by omega)
       rw [Nat.mul_comm count];omega
     . have:P.cellsOf e*(off/P.cellsOf e+1)<=P.cellsOf e*count:=Nat.mul_le_mul_left _ (by omega)
       have hlt:=Nat.mod_lt off hpos
       rw [Nat.mul_add,xC]at this
       rw [Nat.mul_comm count];omega
theorem liesAt_le{P:Program}{d:Nat}: ∀{e:TypeId} {count off:Nat} {u:TypeId} {n:Nat},liesAt P d e count off u n=true->off<=count*P.cellsOf e:=by
 induction d with
 |zero=>intro e count off u n h;cases h
 | succ d ih=>
   intro e count off u n h
   unfold liesAt at h
   rw [Bool.or_eq_true]at h
   rcases h with h|h
   . exact rowAt_le h
   . split at h
     . exact ih h
     . cases h
theorem has_W{P:Program}{W:World}{r:_root_.Go.Reach}{base:Nat}{a:Addr}{e:TypeId}{n:Nat}(h:W.has P r base a e n):a.spot=none/\a.block<W.heap.size/\ ∃l,(hpW W).load (a.block+16) a.off 0=some l:=by
 obtain⟨_,hsp,row,cells,hsh,hl⟩:=h
 have hle:=liesAt_le hl
 have hle2:a.off<=cells:=Nat.le_trans hle (Nat.div_mul_le_self _ _)
 unfold World.shape? at hsh
 split at hsh
 next cs el fz ho=>
  cases hsh
  have hlt:=(Array.getElem?_eq_some_iff.1 ho).1
  have hr:Row (hpW W) (a.block+16) (cs.toList.map (gb W.heap.size)) 0:=⟨_,_,by rw [oe,ho];rfl,Tr.sized_ofList _,fun j=>Tr.get_ofList _ j⟩
  exact⟨hsp,hlt,_,hr.load (o:=a.off) (n:=0) (by simpa using hle2)⟩
 . cases hsh
section
variable{H:Type}{enc:TypeId×Value->H}{P:Program}
theorem jr{W:World}{base fuel:Nat}{s e:TypeId}{k:IntKind}{c:Value}{sp:Nat->Bool}{hd:Bool}{x:DataW H×List MemPlace}(hs:P.underlying s=some (.slice e))(he:P.underlying e=some (.int k))(hc:P.cellsOf e=1)
 (hok:Cell.okWide P W .any base s c) (h:DataW.trod enc P W 0 sp hd fuel s [c]=some x): ∃zs:List Int,SlW (hpW W) k (gb W.heap.size c) zs/\(∀z∈zs,(Lit.int k z).wf=true)/\zs.length<=9223372036854775807:=by
 rcases Go.ChangeShapes.open_ints hs he hc h with⟨e1,_⟩|⟨a,len,cap,zs,e1,hb,hl,hm,hz,_,hcell,hwf⟩
 . cases e1
   exact⟨[],.inl ⟨rfl,rfl⟩,fun z hz=>(by cases hz),by simp⟩
 . cases e1
   unfold Cell.okWide at hok
   rw [hs]at hok
   simp only [Cell.ok,hs]at hok
   obtain⟨hle1,hmax,hhas⟩:=hok
   obtain⟨hsp,hlt,h0⟩:=has_W hhas
   have hlz:len<=zs.length:=by rw [hz];split<;>omega
   refine⟨zs.take len,.inr ⟨a.block+16,a.off,cap,?_,?_,?_⟩,fun z hz=>hwf z (List.mem_of_mem_take hz),by
    have:(cap:Int)<=9223372036854775807:=hmax
    rw [xu];omega⟩
   . rw [xu,xF hlz]
     simp only [gb,if_pos hl,if_pos (And.intro hsp hlt)]
   . rw [xu,xF hlz];exact hl
   . rw [xu,xF hlz,xC]
     rw [load_join (f:=fun i=>.int k (zs.getD i 0)) h0 (fun i hi=>load_W hsp (hcell i (by omega)))]
     congr 1
     have e4: ∀l:List Int,l.flatMap (encI k)=l.map fun x=>.int k x:=fun l=>by
      rw [xJ,List.map_eq_flatMap,xJ];rfl
     rw [e4]
     refine List.ext_getElem? fun i=>?_
     rw [List.getElem?_map,List.getElem?_map,List.getElem?_take]
     by_cases hi:i<len
     . rw [if_pos hi,List.getElem?_range hi,xx (show i<zs.length by omega)]
       simp [xw,show i<zs.length by omega]
     . rw [if_neg hi,List.getElem?_eq_none (by simpa using hi)];rfl
theorem open_slV{W:World}{base:Nat}{s e:TypeId}{k:IntKind}{v:Value}{sp:Nat->Bool}{hd:Bool}{d:DataW H}{p:List MemPlace}(hs:P.underlying s=some (.slice e))(he:P.underlying e=some (.int k))(hc:P.cellsOf e=1)
 (hval:Value.okWide P W .any base s v) (h:DataW.Trod enc P W 0 sp hd s v d p): ∃zs:List Int,SlW (hpW W) k (absA W.heap.size v) zs/\(∀z∈zs,(Lit.int k z).wf=true)/\zs.length<=9223372036854775807:=by
 unfold Value.okWide at hval
 rw [hs]at hval
 obtain⟨fuel,h⟩:=h
 have hc0: ∀l:Array Value,v≠ .agg l:=by
  rintro l rfl
  simp only [Cell.okWide,hs,Cell.ok]at hval
 have hcs:v.cells.toList=[v]:=by cases v<;>first|rfl|exact absurd rfl (hc0 _)
 rw [hcs]at h
 have ha:absA W.heap.size v=gb W.heap.size v:=by cases v<;>first|rfl|exact absurd rfl (hc0 _)
 rw [ha]
 exact jr hs he hc hval h
theorem open_sl2{W:World}{base:Nat}{t s e:TypeId}{k:IntKind}{f0 f1:Field}{v:Value}{sp:Nat->Bool}{hd:Bool}{d:DataW H}{p:List MemPlace}(ht:P.underlying t=some (.struct #[f0,f1]))(o0:f0.offset=0)(o1:f1.offset=1)(t0:f0.type=s)(t1:f1.type=s)
 (hs:P.underlying s=some (.slice e)) (he:P.underlying e=some (.int k)) (hc:P.cellsOf e=1) (hcs:P.cellsOf s=1) (hct:P.cellsOf t=2) (hts:P.cellTypes P.depth t=some [s,s])
 (hval:Value.okWide P W .any base t v) (h:DataW.Trod enc P W 0 sp hd t v d p):
 ∃(c0 c1:Value) (xs ys:List Int),v=.agg #[c0,c1]/\SlW (hpW W) k (gb W.heap.size c0) xs/\SlW (hpW W) k (gb W.heap.size c1) ys/\(∀z∈xs,(Lit.int k z).wf=true)/\ ∀z∈ys,(Lit.int k z).wf=true:=by
 unfold Value.okWide at hval
 rw [ht]at hval
 obtain⟨cs,rfl,hsz,ts,e1,_,hrow⟩:=hval
 rw [hts]at e1
 cases e1
 rw [hct]at hsz
 obtain⟨l⟩:=cs
 simp only [xz]at hsz
 obtain⟨c0,c1,rfl⟩:=len2 hsz
 obtain⟨fuel,h⟩:=h
 obtain⟨y0,y1,n,_,_,h1,h2⟩:=Go.ChangeShapes.trod_struct2 ht h
 rw [o0,t0,hcs]at h1
 rw [o1,t1,hcs]at h2
 obtain⟨u0,e0,k0⟩:=hrow 0 c0 rfl
 obtain⟨u1,e1,k1⟩:=hrow 1 c1 rfl
 cases e0
 cases e1
 obtain⟨xs,hx,wx,_⟩:=jr hs he hc k0 h1
 obtain⟨ys,hy,wy,_⟩:=jr hs he hc k1 h2
 exact⟨c0,c1,xs,ys,rfl,hx,hy,wx,wy⟩
end
end Go.Ab

end
section
namespace Go.Ab
open Go.ChangeShapes Go.WideShapes Go.RowKit
section
variable{H:Type}{enc:TypeId×Value->H}{P:Program}
theorem open_arr2{W:World}{base:Nat}{t e:TypeId}{k:IntKind}{v:Value}{sp:Nat->Bool}{hd:Bool}{d:DataW H}{p:List MemPlace}(ht:P.underlying t=some (.array 2 e))(he:P.underlying e=some (.int k))(hce:P.cellsOf e=1)(hct:P.cellsOf t=2)
 (hval:Value.okWide P W .any base t v) (h:DataW.Trod enc P W 0 sp hd t v d p): ∃x y:Int,v=.agg #[.int k x,.int k y]/\(Lit.int k x).wf=true/\(Lit.int k y).wf=true:=by
 unfold Value.okWide at hval
 rw [ht]at hval
 obtain⟨cs,rfl,hsz,_⟩:=hval
 rw [hct]at hsz
 obtain⟨l⟩:=cs
 simp only [xz]at hsz
 obtain⟨a,b,rfl⟩: ∃a b,l=[a,b]:=by
  match l,hsz with
  | [a,b],_=>exact⟨a,b,rfl⟩
 obtain⟨fuel,h⟩:=h
 obtain⟨xs,m,_,_,_,hlen,hf⟩:=DataW.trod_array ht h
 obtain⟨y0,y1,rfl⟩: ∃a b,xs=[a,b]:=by
  match xs,hlen with
  | [a,b],_=>exact⟨a,b,rfl⟩
 have q0:=hf 0 (by decide)
 have q1:=hf 1 (by decide)
 rw [hce]at q0 q1
 obtain⟨x,e0,_,w0⟩:=DataW.trod_int he q0
 obtain⟨y,e1,_,w1⟩:=DataW.trod_int he q1
 cases e0
 cases e1
 exact⟨x,y,rfl,w0,w1⟩
end
end Go.Ab

end
section
namespace Go.Ab
open Go.ChangeShapes Go.WideShapes Go.RowKit
section
variable{H:Type}{enc:TypeId×Value->H}{P:Program}
theorem kH{t e:TypeId}{k:IntKind}{n:Nat}{cs:List Value}{W:World}{sp:Nat->Bool}{hd:Bool}{fuel:Nat}{x:DataW H×List MemPlace}(ht:P.underlying t=some (.array n e))(he:P.underlying e=some (.int k))(hce:P.cellsOf e=1)(h:DataW.trod enc P W 0 sp hd fuel t cs=some x):
 ∀i,i<n-> ∃z:Int,cs[i]? =some (.int k z)/\(Lit.int k z).wf=true:=by
 obtain⟨xs,m,_,_,_,hlen,hf⟩:=DataW.trod_array ht h
 intro i hi
 have q:=hf i (by omega)
 rw [hce,xC]at q
 obtain⟨y,hy⟩: ∃y,xs[i]? =some y:=⟨_,xx (by omega)⟩
 rw [hy]at q
 obtain⟨z,e0,_,w0⟩:=DataW.trod_int he q
 refine⟨z,?_,w0⟩
 have:=congrArg (·[0]?) e0
 simpa using this
theorem len7{α:Type}{l:List α}(h:l.length=7): ∃a b c d e f g,l=[a,b,c,d,e,f,g]:=by
 match l,h with
 | [a,b,c,d,e,f,g],_=>exact⟨a,b,c,d,e,f,g,rfl⟩
theorem open_d13{W:World}{base:Nat}{t s0 a2 a3 s3 e e3:TypeId}{f0 f1 f2 f3:Field}{v:Value}{sp:Nat->Bool}{hd:Bool}{d:DataW H}{p:List MemPlace}(ht:P.underlying t=some (.struct #[f0,f1,f2,f3]))(o0:f0.offset=0)(o1:f1.offset=1)(o2:f2.offset=3)(o3:f3.offset=6)
 (t0:f0.type=s0) (t1:f1.type=a2) (t2:f2.type=a3) (t3:f3.type=s3) (h0:P.underlying s0=some (.slice e)) (h1:P.underlying a2=some (.array 2 e)) (h2:P.underlying a3=some (.array 3 e)) (h3:P.underlying s3=some (.slice e3))
 (g0:P.underlying e=some (.int .u8)) (g3:P.underlying e3=some (.int .i64)) (c0:P.cellsOf e=1) (c3:P.cellsOf e3=1) (d0:P.cellsOf s0=1) (d1:P.cellsOf a2=2) (d2:P.cellsOf a3=3) (d3:P.cellsOf s3=1) (hct:P.cellsOf t=7) (hts:P.cellTypes P.depth t=some [s0,e,e,e,e,e,s3])
 (hval:Value.okWide P W .any base t v) (h:DataW.Trod enc P W 0 sp hd t v d p):
 ∃ (a b:Value) (x y z1 z2 z3:Int) (B N:List Int),v=.agg #[a,.int .u8 x,.int .u8 y,.int .u8 z1,.int .u8 z2,.int .u8 z3,b]/\SlW (hpW W) .u8 (gb W.heap.size a) B/\SlW (hpW W) .i64 (gb W.heap.size b) N/\
   (∀z∈B,(Lit.int .u8 z).wf=true)/\(∀z∈N,(Lit.int .i64 z).wf=true)/\(Lit.int .u8 x).wf=true/\(Lit.int .u8 y).wf=true/\(Lit.int .u8 z1).wf=true/\(Lit.int .u8 z2).wf=true/\(Lit.int .u8 z3).wf=true/\N.length<=9223372036854775807:=by
 unfold Value.okWide at hval
 rw [ht]at hval
 obtain⟨cs,rfl,hsz,ts,e1,_,hrow⟩:=hval
 rw [hts]at e1
 cases e1
 rw [hct]at hsz
 obtain⟨l⟩:=cs
 simp only [xz]at hsz
 obtain⟨a,x1,x2,y1,y2,y3,b,rfl⟩:=len7 hsz
 obtain⟨fuel,h⟩:=h
 obtain⟨xs,n,_,_,hl,hlen,hf⟩:=DataW.trod_struct ht h
 obtain⟨z0,z1,z2,z3,rfl⟩:=len4 (by rw [hlen];rfl:xs.length=4)
 have q0:=hf 0 f0 rfl
 have q1:=hf 1 f1 rfl
 have q2:=hf 2 f2 rfl
 have q3:=hf 3 f3 rfl
 rw [o0,t0,d0]at q0
 rw [o1,t1,d1]at q1
 rw [o2,t2,d2]at q2
 rw [o3,t3,d3]at q3
 have r: ∀(j:Nat) t v,[s0,e,e,e,e,e,s3][j%7]? =some t->[a,x1,x2,y1,y2,y3,b][j]? =some v->Cell.okWide P W .any base t v:=fun j t v h1 h2=>by
  obtain⟨u,h3,h4⟩:=hrow j v (by simpa using h2)
  obtain rfl:t=u:=Option.some.inj (h1.symm.trans h3)
  exact h4
 obtain⟨B,hB,wB,_⟩:=jr h0 g0 c0 (r 0 s0 a rfl rfl) q0
 obtain⟨N,hN,wN,lN⟩:=jr h3 g3 c3 (r 6 s3 b rfl rfl) q3
 obtain⟨k1,i1,j1⟩:=kH h1 g0 c0 q1 0 (by decide)
 obtain⟨k2,i2,j2⟩:=kH h1 g0 c0 q1 1 (by decide)
 obtain⟨k3,i3,j3⟩:=kH h2 g0 c0 q2 0 (by decide)
 obtain⟨k4,i4,j4⟩:=kH h2 g0 c0 q2 1 (by decide)
 obtain⟨k5,i5,j5⟩:=kH h2 g0 c0 q2 2 (by decide)
 cases i1
 cases i2
 cases i3
 cases i4
 cases i5
 exact⟨a,b,k1,k2,k3,k4,k5,B,N,rfl,hB,hN,wB,wN,j1,j2,j3,j4,j5,lN⟩
end
end Go.Ab

end
section
namespace Go.Ab
open Go.ChangeShapes Go.WideShapes Go.RowKit
section
variable{H:Type}{enc:TypeId×Value->H}{P:Program}
theorem open_d19{W:World}{base:Nat}{t s0 tq i s3 e e3:TypeId}{f0 f1 f2 f3 b0 b1 b2 b3:Field}{v:Value}{sp:Nat->Bool}{hd:Bool}{d:DataW H}{p:List MemPlace}(ht:P.underlying t=some (.struct #[f0,f1,f2,f3]))(o0:f0.offset=0)(o1:f1.offset=1)(o2:f2.offset=2)(o3:f3.offset=6)
 (t0:f0.type=s0) (t1:f1.type=s0) (t2:f2.type=tq) (t3:f3.type=s3) (hq:P.underlying tq=some (.struct #[b0,b1,b2,b3])) (u0:b0.offset=0) (u1:b1.offset=1) (u2:b2.offset=2) (u3:b3.offset=3) (x0:b0.type=i) (x1:b1.type=i) (x2:b2.type=i) (x3:b3.type=i)
 (h0:P.underlying s0=some (.slice e)) (h3:P.underlying s3=some (.slice e3)) (hi:P.underlying i=some (.int .i64))
 (g0:P.underlying e=some (.int .u8)) (g3:P.underlying e3=some (.int .i64)) (c0:P.cellsOf e=1) (c3:P.cellsOf e3=1) (d0:P.cellsOf s0=1) (dq:P.cellsOf tq=4) (d3:P.cellsOf s3=1) (di:P.cellsOf i=1) (hct:P.cellsOf t=7) (hts:P.cellTypes P.depth t=some [s0,s0,i,i,i,i,s3])
 (hval:Value.okWide P W .any base t v) (h:DataW.Trod enc P W 0 sp hd t v d p):
 ∃ (a b c:Value) (y0 y1 y2 y3:Int) (B M N:List Int),v=.agg #[a,b,.int .i64 y0,.int .i64 y1,.int .i64 y2,.int .i64 y3,c]/\SlW (hpW W) .u8 (gb W.heap.size a) B/\SlW (hpW W) .u8 (gb W.heap.size b) M/\SlW (hpW W) .i64 (gb W.heap.size c) N/\
   (∀z∈B,(Lit.int .u8 z).wf=true)/\(∀z∈M,(Lit.int .u8 z).wf=true)/\(∀z∈N,(Lit.int .i64 z).wf=true)/\M.length<=9223372036854775807/\N.length<=9223372036854775807:=by
 unfold Value.okWide at hval
 rw [ht]at hval
 obtain⟨cs,rfl,hsz,ts,e1,_,hrow⟩:=hval
 rw [hts]at e1
 cases e1
 rw [hct]at hsz
 obtain⟨l⟩:=cs
 simp only [xz]at hsz
 obtain⟨a,b,y0,y1,y2,y3,c,rfl⟩:=len7 hsz
 obtain⟨fuel,h⟩:=h
 obtain⟨xs,n,_,_,hl,hlen,hf⟩:=DataW.trod_struct ht h
 obtain⟨z0,z1,z2,z3,rfl⟩:=len4 (by rw [hlen];rfl:xs.length=4)
 have q0:=hf 0 f0 rfl
 have q1:=hf 1 f1 rfl
 have q2:=hf 2 f2 rfl
 have q3:=hf 3 f3 rfl
 rw [o0,t0,d0]at q0
 rw [o1,t1,d0]at q1
 rw [o2,t2,dq]at q2
 rw [o3,t3,d3]at q3
 have r: ∀(j:Nat) t v,[s0,s0,i,i,i,i,s3][j%7]? =some t->[a,b,y0,y1,y2,y3,c][j]? =some v->Cell.okWide P W .any base t v:=fun j t v h1 h2=>by
  obtain⟨u,h3,h4⟩:=hrow j v (by simpa using h2)
  obtain rfl:t=u:=Option.some.inj (h1.symm.trans h3)
  exact h4
 obtain⟨B,hB,wB,_⟩:=jr h0 g0 c0 (r 0 s0 a rfl rfl) q0
 obtain⟨M,hM,wM,lM⟩:=jr h0 g0 c0 (r 1 s0 b rfl rfl) q1
 obtain⟨N,hN,wN,lN⟩:=jr h3 g3 c3 (r 6 s3 c rfl rfl) q3
 obtain⟨ys,n2,_,_,hl2,hlen2,hf2⟩:=DataW.trod_struct hq q2
 obtain⟨w0,w1,w2,w3,rfl⟩:=len4 (by rw [hlen2];rfl:ys.length=4)
 have k0:=hf2 0 b0 rfl
 have k1:=hf2 1 b1 rfl
 have k2:=hf2 2 b2 rfl
 have k3:=hf2 3 b3 rfl
 rw [u0,x0,di]at k0
 rw [u1,x1,di]at k1
 rw [u2,x2,di]at k2
 rw [u3,x3,di]at k3
 obtain⟨n0,e0,_,_⟩:=DataW.trod_int hi k0
 obtain⟨n1,e1,_,_⟩:=DataW.trod_int hi k1
 obtain⟨n2,e2,_,_⟩:=DataW.trod_int hi k2
 obtain⟨n3,e3,_,_⟩:=DataW.trod_int hi k3
 cases e0
 cases e1
 cases e2
 cases e3
 exact⟨a,b,c,n0,n1,n2,n3,B,M,N,rfl,hB,hM,hN,wB,wM,wN,lM,lN⟩
end
end Go.Ab

end

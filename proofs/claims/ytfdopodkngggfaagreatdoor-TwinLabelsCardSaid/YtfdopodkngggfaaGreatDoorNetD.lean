/- Nets, cells, flags: what the functions do (part 4). -/
import Derived.Test.YtfdopodkngggfaaGreatDoorNetC
open List renaming getD_eq_getElem?_getD->zM,mem_append_left->zN,not_mem_nil->zP,append_nil->zQ,mem_cons->zR,mem_append_right->zS,length_drop->zU,filterMap_nil->zW,flatMap_append->zX,cons_append->zY,nil_append->Xc,map_cons->Xd,flatMap_cons->Xf,getElem_mem->Xh,flatMap_nil->Xi,mem_cons_self->Xl,map_nil->Xn,range->Xo,length_append->Xv,take->Xz,drop->XA,length_singleton->XC,all_cons->XL,take_length->XN,all_nil->XO,getElem?_eq_getElem->XP,length_cons->XQ,nodup_cons->XR,replicate->XS,mem_cons_of_mem->XU
open Go.Ab.Tryz renaming abEnv->zO,u3->Xk,u33->Xx,u238->XB,s31->XF,e3E->XG,u182->XI,s3->XT,e80E->XW,u48->XX
open Int renaming cast_ofNat_Int->zT,ofNat_eq_natCast->Xp,tmod_eq_emod_of_nonneg->XM,ofNat->XV
open Option renaming getD_some->zV,getD_none->zZ,map_some->Xb,map_none->Xr,isSome_none->Xu,isSome_some->XK
open Nat renaming le_refl->Xa,lt_of_succ_le->Xe,zero_le->Xg,mul_one->Xm,mul_le_mul_right->Xq,zero_mul->Xs,zero_add->Xt,one_mul->Xw,ble_eq_true_of_le->Xy,le_trans->XE,lt_of_lt_of_le->XH
open Bool renaming and_true->Xj,not_not->XD,false_eq_true->XJ
set_option maxHeartbeats 4000000
set_option linter.defProp false
set_option linter.unusedVariables false
set_option linter.unusedSimpArgs false
section
namespace Go.Ab
open Go.Proofs
set_option maxRecDepth 10000
def Tryz.FFl2018:=aj Z1<|aj Z2<|aj Z0<|aj Z3<|aj Z7<|aj Z9<|aj Z14<|aj Z17<|aj Z19<|aj Z27<|aj Z40<|aj Z29<|aj Z37<|aj Z41<|aj Z47<|aj Z53<|aj Z39<|aj Z67<|aj Z65<|aj Z5<|aj Z13<|aj Z6<|aj Z8<|aj Z54<|aj Z55<|aj Z56<|aj Z48<|aj Z57<|aj Z58<|aj Z59<|aj Z60<|aj Z61<|aj Z62<|Z46
theorem sy {h0 : Hp} (ok:h0.t.Sized h0.n) {γ:Gra} (hγ:Good γ) {vx vy va:Value} (ga:cU h0 vx vy va γ) {s:Nat} (hs:s<γ.nodes) {b:Bool} {A':List Arc} (hA':A'=seen γ.arcs (fsB b) (ftB b)) (hD: ∀v,v<γ.nodes->IsD A' s v (dOf A' s v)):
 Ret zO 18 [fW γ vx vy va,.int .i64 s,.bool b] h0 fun r h'=>Gr h0 h'/\aA h' 1 (encI .i64) r (jh A' γ.nodes s)/\ ∀c,av r c->h0.n<=c:=by
 have S:=Si ok
 have n1:=hγ.n1
 have n2:=hγ.n2
 have many:=hγ.many
 have fx:=ga.X.fl
 have fy:=ga.Y.fl
 have fa:=ga.A.fl
 have hF:=gO
 have eLen:A'.length=γ.arcs.length:=by rw [hA'];simp [seen]
 refine ab (n:=86) (rs:=[.tmp 6]) rfl Tryz.e18 rfl rfl rfl (lbt rfl) ?_
 simp only [BS,Nat.reduceLT,fW]
 refine ag (aZ (by intro x e;cases e)) S ?_;clear S;intro h b3 S n_b3;simp only [an]at S
 simp only [BS]
 replace S:=S.nilG (k:=1)
 refine bA (fun(i:Nat) ρ h=>i<=γ.nodes/\ ∃(vR:Value),St NoM h0 h [(b3,.row [.int .i64 γ.nodes,vx,vy,va] 1)] [(vR,1,XS i (.int .i64 72057594037927936))]/\ρ 1=.int .i64 s/\ρ 2=.bool b/\ρ 3=ptrTo b3/\ρ 7=vR/\ρ 8=.int .i64 i) (fun i=>γ.nodes-i) ?_ 0 _ _ ?_
 . clear S
   intro i ih ρ h ⟨hi,vR,S,r1,r2,r3,r7,r8⟩
   by_cases hlt:i<γ.nodes
   . have w:aq .i64 ((i:Int)+1)=((i+1:Nat):Int):=by rw [wrap64]<;>omega
     simp only [BS,LB,Nat.reduceLT,Nat.reduceEqDiff,Tryz.FFl2018,r3,r7,r8,aP,hlt,S.ld (b:=b3) (o:=0) m0 rfl]
     refine ag (cm (by exact Tryz.u24) (by exact Tryz.e2E) (by decide) (by rfl)) S ?_;clear S;intro h bt S n_bt;simp only [LC,aY,bM,an,Nat.reduceMul,Nat.reduceAdd,Xs,Xt,Xm,Xw]at S
     simp only [BS,LB,Nat.reduceLT,Nat.reduceEqDiff]
     have src:aO h 1 (.slice (some ⟨bt,0,none⟩) 1 1)=some (1,[.int .i64 72057594037927936]):=by simp only [aO];rw [S.lds (b:=bt) (o:=0) (n:=1*1) m0 (lbt rfl)];rfl
     replace S:=S.drop1
     refine fL (S.grow (j:=0) (m:=1) (new:=[.int .i64 72057594037927936]) rfl Tryz.u24 Tryz.e2E (by decide) Tryz.n24 src rfl (by decide) rfl (by simp;omega)) ?_
     clear S src;rintro h vR' S
     simp only [LC,<-List.replicate_succ']at S
     simp only [BS,LB,Nat.reduceLT,Nat.reduceEqDiff,r8,w]
     exact ih (i+1) _ _ (by omega) ⟨by omega,vR',S,by simp [aa,r1],by simp [aa,r2],by simp [aa,r3,ae],by simp [aa],by simp [aa]⟩
   . have hiN :i=γ.nodes:=by omega
     subst hiN
     have c1: ¬((s:Int)<0):=by omega
     have c2: ¬((γ.nodes:Int)<=(s:Int)):=by omega
     obtain⟨bl,ev,S2⟩:=S.toL (by intro e;have:=congrArg List.length e;simp at this;omega)
     clear S
     have S:=S2
     clear S2
     rw [List.length_replicate]at ev
     subst ev
     have e0:XS γ.nodes (Value.int .i64 72057594037927936)=jV γ.nodes fun _=>FAR:=by
      unfold jV
      rw [List.map_const',List.length_range];rfl
     rw [e0]at S
     have ips:eR (.int .i64 (s:Int)) γ.nodes=some s:=eX hs
     simp only [BS,LB,Nat.reduceLT,Nat.reduceEqDiff,Tryz.FFl2018,r1,r3,r7,r8,aP,hlt,ips,S.ld (b:=b3) (o:=0) m1 rfl]
     refine aC (aI S (i:=0) rfl Tryz.s2 bG (by rw [uh];omega) ono) ?_
     clear S;rintro h ⟨S,_⟩
     have e1:((0:Int))=((0:Nat):Int):=rfl
     simp only [LC]at S
     rw [e1,uv]at S
     simp only [BS]
     have L0:Ls A' s γ.nodes (dU (fun _=>FAR) s 0):=by
      refine⟨fun v=>?_,fun v=>?_,by simp [dU]⟩
      . unfold dU;split
        . omega
        . exact Xa _
      . unfold dU;split
        . rename_i e;subst e;exact .inr .nil
        . exact .inl rfl
     refine bA (fun(a:(Nat->Nat)×Bool) ρ h=>Ls A' s γ.nodes a.1/\St NoM h0 h [(bl,.row (jV γ.nodes a.1) 1),(b3,.row [.int .i64 γ.nodes,vx,vy,va] 1)] []/\(a.2=false->Rlx A' A'.length a.1)/\ρ 2=.bool b/\ρ 3=ptrTo b3/\ρ 7=.slice (some ⟨bl,0,some 1⟩) γ.nodes γ.nodes/\ρ 9=.bool a.2) (fun a=>2*sumTo a.1 γ.nodes+a.2.toNat) ?_ (dU (fun _=>FAR) s 0,true) _ _ ?_
     . clear S L0 e0 r1 r2 r3 r7 r8 hi ih
       rintro⟨l,more⟩ ih ρ h ⟨hL,S,hr,r2,r3,r7,r9⟩
       cases more with
       | false=>
         simp only [BS,LB,ac,Nat.reduceLT,Nat.reduceEqDiff,r7,r9]
         have row:=S.row (b:=bl) m0
         have ec:jV γ.nodes l=ints (jh A' γ.nodes s):=by
          unfold jV jh
          rw [pz,List.map_map]
          refine List.map_congr_left fun v hv=>?_
          have hv:=List.mem_range.1 hv
          have:=hL.isD (rlx_all (hr rfl)) (hD v hv)
          have this:l v=dOf A' s v:=this
          show Value.int .i64 ((l v:Nat):Int)=_
          rw [this];rfl
         rw [ec]at row
         refine⟨S.gr,.inr ⟨bl,0,some 1,γ.nodes,by rw [jn],by rw [jn];omega,?_⟩,fun c hc=>?_⟩
         . rw [row.load (by rw [cN];omega),List.drop_zero,Xm,<-cN (jh A' γ.nodes s),XN];rfl
         . obtain rfl:bl=c:=hc
           exact(S.own _ m0).1.elim (fun h=>h) (fun h=>h.elim)
       | true =>
         simp only [BS,LB,Nat.reduceLT,r9]
         refine bA (fun(k:Nat) ρ h=>k<=γ.arcs.length/\ ∃(l':Nat->Nat) (ch:Bool),Ls A' s γ.nodes l'/\St NoM h0 h [(bl,.row (jV γ.nodes l') 1),(b3,.row [.int .i64 γ.nodes,vx,vy,va] 1)] []/\((ch=false/\l'=l/\Rlx A' k l)\/(ch=true/\sumTo l' γ.nodes<sumTo l γ.nodes))/\ρ 2=.bool b/\ρ 3=ptrTo b3/\ρ 7=.slice (some ⟨bl,0,some 1⟩) γ.nodes γ.nodes/\ρ 9=.bool ch/\ρ 10=.int .i64 k) (fun k=>γ.arcs.length-k) ?_ 0 _ _ ?_
         . clear S r2 r3 r7 r9 hL
           intro k ihk ρ h ⟨hk,l',ch,hL,S,hc,r2,r3,r7,r9,r10⟩
           have wk:aq .i64 ((k:Int)+1)=((k+1:Nat):Int):=by rw [wrap64]<;>omega
           have gaC:=ga.A.gr S.gr
           by_cases hkt:k<γ.arcs.length
           . obtain⟨c3,o3,x3,y3⟩:=gaC.ix (kd:=.i64) gP hkt
             obtain⟨a1,a2,a3⟩:=hγ.arcs _ (Xh hkt)
             have hk':A'.getD k default=⟨fsB b γ.arcs[k],ftB b γ.arcs[k],γ.arcs[k].w⟩/\A'.getD k default∈A':=by
              rw [hA']
              have:=oL (fs:=fsB b) (ft:=ftB b) hkt
              simpa [zM,hkt]using this
             generalize γ.arcs[k]=a0 at a1 a2 a3 hk' y3
             have ys:h.load c3 o3 1=some [.int .i64 (a0.s:Nat)]:=jv y3 (i:=0) (m:=1) (by decide)
             have yt:h.load c3 (o3+1) 1=some [.int .i64 (a0.t:Nat)]:=jv y3 (i:=1) (m:=1) (by decide)
             have yw:h.load c3 (o3+2) 1=some [.int .i64 (a0.w:Nat)]:=jv y3 (i:=2) (m:=1) (by decide)
             simp only [BS,LB,Nat.reduceLT,Nat.reduceEqDiff,Tryz.FFl2018,r3,r10,gaC.lenq,aP,hkt,S.ld (b:=b3) (o:=3) m1 rfl]
             refine aD (aM rfl) (q:=0) (ps:=[]) (by kernel_rfl) ?_
             simp only [BS,LB,cls,Nat.reduceLT,Nat.reduceEqDiff,Nat.reduceAdd,Nat.reducePow,Nat.reduceDiv,Nat.reduceMod,Nat.reduceLeDiff,Tryz.FFl2018,r2,r3,r10,x3,ys,yt,S.ld (b:=b3) (o:=3) m1 rfl]
             refine sI (fun ρ' h'=>h'=h/\ρ' 2=.bool b/\ρ' 3=ptrTo b3/\ρ' 7=.slice (some ⟨bl,0,some 1⟩) γ.nodes γ.nodes/\ρ' 9=.bool ch/\ρ' 10=.int .i64 k/\ρ' 11=.int .i64 (fsB b a0:Nat)/\ρ' 12=.int .i64 (ftB b a0:Nat)) ?_ ?_ ?_
             . rintro rfl
               simp only [BS,LB,Nat.reduceLT,Nat.reduceEqDiff]
               exact iF ⟨rfl,by simp [aa,r2],by simp [aa,r3,ae],by simp [aa,r7],by simp [aa,r9],by simp [aa,r10],by simp [aa,fsB],by simp [aa,ftB]⟩
             . rintro rfl
               simp only [BS]
               exact iF ⟨rfl,by simp [aa,r2],by simp [aa,r3,ae],by simp [aa,r7],by simp [aa,r9],by simp [aa,r10],by simp [aa,fsB],by simp [aa,ftB]⟩
             . clear r2 r3 r7 r9 r10
               rintro ρ' h' ⟨rfl,r2,r3,r7,r9,r10,r11,r12⟩
               have a1':fsB b a0<γ.nodes:=by unfold fsB;split<;>assumption
               have a2':ftB b a0<γ.nodes:=by unfold ftB;split<;>assumption
               obtain⟨ags,am⟩:=hk'
               obtain⟨a,ea⟩: ∃a:Arc,a=⟨fsB b a0,ftB b a0,a0.w⟩:=⟨_,rfl⟩
               have es:fsB b a0=a.s:=by rw [ea]
               have et:ftB b a0=a.t:=by rw [ea]
               have ew:a0.w=a.w:=by rw [ea]
               rw [<-ea]at ags
               rw [ags]at am
               rw [es]at r11 a1'
               rw [et]at r12 a2'
               rw [ew]at yw a3
               have d1:=hL.le a.s
               have d2:=hL.le a.t
               have ips:eR (.int .i64 (a.s:Int)) γ.nodes=some a.s:=eX a1'
               have ipt:eR (.int .i64 (a.t:Int)) γ.nodes=some a.t:=eX a2'
               have lds:=S.ld (b:=bl) (o:=a.s) m0 (wK a1')
               have ldt:=S.ld (b:=bl) (o:=a.t) m0 (wK a2')
               have wsum:aq .i64 ((l' a.s:Int)+(a.w:Int))=((l' a.s+a.w:Nat):Int):=by rw [wrap64]<;>omega
               simp only [BS]
               refine aD (aM rfl) (q:=0) (ps:=[]) (by kernel_rfl) ?_
               by_cases e1:l' a.s<FAR
               . have e1':(l' a.s:Int)<72057594037927936:=by omega
                 by_cases e2:l' a.s+a.w<l' a.t
                 . have e2':((l' a.s+a.w:Nat):Int)<(l' a.t:Int):=by omega
                   simp only [BS,LB,cls,Nat.reduceLT,Nat.reduceEqDiff,Nat.reduceAdd,Nat.reducePow,Nat.reduceDiv,Nat.reduceMod,Nat.reduceLeDiff,Tryz.FFl2018,r3,r7,r10,r11,r12,x3,yw,ips,ipt,lds,ldt,wsum,e1',e2',S.ld (b:=b3) (o:=3) m1 rfl]
                   refine aD (aM rfl) (q:=0) (ps:=[]) (by kernel_rfl) ?_
                   simp only [BS,LB,cls,Nat.reduceLT,Nat.reduceEqDiff,Nat.reduceAdd,Nat.reducePow,Nat.reduceDiv,Nat.reduceMod,Nat.reduceLeDiff,Tryz.FFl2018,r3,r7,r10,r11,r12,x3,yw,ips,ipt,lds,wsum,S.ld (b:=b3) (o:=3) m1 rfl]
                   refine dK (aI S (i:=0) rfl Tryz.s2 bG (by rw [uh];omega) ono) ?_
                   clear S lds ldt;rintro h ⟨S,_⟩
                   simp only [LC,uv]at S
                   simp only [BS,LB,Nat.reduceLT,Nat.reduceEqDiff,Nat.reduceAdd,r10,wk]
                   have hsum:=sum_upd (l:=l') (v:=a.t) (x:=l' a.s+a.w) a2'
                   refine ihk (k+1) _ _ (by omega) ⟨by omega,_,true,hL.step am e1 e2,S,.inr ⟨rfl,?_⟩,by simp [aa,r2],by simp [aa,r3,ae],by simp [aa,r7],by simp [aa],by simp [aa]⟩
                   rcases hc with⟨_,rfl,_⟩|⟨_,h⟩<;>omega
                 . have e2': ¬((l' a.s+a.w:Nat):Int)<(l' a.t:Int):=by omega
                   simp only [BS,LB,cls,Nat.reduceLT,Nat.reduceEqDiff,Nat.reduceAdd,Nat.reducePow,Nat.reduceDiv,Nat.reduceMod,Nat.reduceLeDiff,Tryz.FFl2018,r3,r7,r10,r11,r12,x3,yw,ips,ipt,lds,ldt,wsum,e1',e2',wk,S.ld (b:=b3) (o:=3) m1 rfl]
                   refine ihk (k+1) _ _ (by omega) ⟨by omega,_,ch,hL,S,hc.imp (fun⟨x,y,z⟩=>⟨x,y,fun j hj=>?_⟩) id,by simp [aa,r2],by simp [aa,r3,ae],by simp [aa,r7],by simp [aa,r9],by simp [aa]⟩
                   by_cases ej:j=k
                   . subst ej;subst y;rw [ags];intro _;omega
                   . exact z j (by omega)
               . have e1': ¬(l' a.s:Int)<72057594037927936:=by omega
                 simp only [BS,LB,cls,Nat.reduceLT,Nat.reduceEqDiff,Nat.reduceAdd,Nat.reducePow,Nat.reduceDiv,Nat.reduceMod,Nat.reduceLeDiff,Tryz.FFl2018,r7,r10,r11,ips,lds,e1',wk,S.ld (b:=b3) (o:=3) m1 rfl]
                 refine ihk (k+1) _ _ (by omega) ⟨by omega,_,ch,hL,S,hc.imp (fun⟨x,y,z⟩=>⟨x,y,fun j hj=>?_⟩) id,by simp [aa,r2],by simp [aa,r3,ae],by simp [aa,r7],by simp [aa,r9],by simp [aa]⟩
                 by_cases ej:j=k
                 . subst ej;subst y;rw [ags];intro h;exact absurd h e1
                 . exact z j (by omega)
           . simp only [BS,LB,ac,Nat.reduceLT,Nat.reduceEqDiff,Tryz.FFl2018,r3,r7,r10,gaC.lenq,aP,hkt,S.ld (b:=b3) (o:=3) m1 rfl]
             have hk':k=γ.arcs.length:=by omega
             subst hk'
             refine ih (l',ch) _ _ ?_ ⟨hL,S,fun h=>?_,by simp [aa,r2],by simp [aa,r3,ae],by simp [aa,r7],by simp [aa,r9]⟩
             . rcases hc with⟨rfl,rfl,_⟩|⟨rfl,h⟩
               . simp
               . simp;omega
             . rcases hc with⟨_,rfl,h⟩|⟨h2,_⟩
               . rw [eLen];exact h
               . exact absurd (h2.symm.trans h) (by decide)
         . exact⟨Xg _,l,false,hL,S,.inl ⟨rfl,rfl,fun j hj=>by omega⟩,by simp [aa,r2],by simp [aa,r3,ae],by simp [aa,r7],by simp [aa],by simp [aa]⟩
     . exact⟨L0,S,fun h=>(by cases h),by simp [aa,r2],by simp [aa,r3,ae],by simp [aa,r7],by simp [aa]⟩
 . exact⟨Xg _,_,S,by simp [aa,bn,ce],by simp [aa,bn,ce],by simp [aa,ae],by simp [aa],by simp [aa]⟩
def Tryz.FFl20m10:=aj Z1<|aj Z2<|aj Z0<|aj Z3<|aj Z7<|aj Z9<|aj Z14<|aj Z17<|aj Z19<|aj Z27<|aj Z40<|aj Z29<|aj Z37<|aj Z41<|aj Z47<|aj Z53<|aj Z39<|aj Z67<|aj Z66<|aj Z71<|aj Z5<|aj Z78<|aj Z13<|aj Z6<|aj Z10<|aj Z4<|aj Z76<|aj Z77<|aj Z70<|aj Z8<|aj Z12<|aj Z11<|aj Z54<|aj Z55<|aj Z56<|aj Z48<|aj Z57<|aj Z58<|aj Z59<|aj Z60<|aj Z61<|aj Z62<|Z46
theorem slice1{E:Env}{t e:TypeId}(hu:E.und t=some (.slice e))(hs:E.sz e=some 1){b n:Nat}(h1:1<n):dQ E t (.slice (some ⟨b,0,some 1⟩) n n) (some (.int .i64 1)) none none=some (.slice (some ⟨b,1,some 1⟩) (n-1) (n-1)):=by
 have nat:fU 1=some 1:=rfl
 have e1:Nat.beq n 1=false:=by
  cases n with
  |zero=>omega
  | succ n=>cases n with
    |zero=>omega
    |succ n=>rfl
 simp only [dQ,hu,eg,dW,nat,hs,Xu,cond_false,Xy (show 1<=n by omega),Xy (Xa n),Xy (show(1:Nat)<=n by omega),cond_true,e1]
 rfl
theorem sl_drop1{E:Env}{t e:TypeId}(hu:E.und t=some (.slice e))(hs:E.sz e=some 1){h:Hp}{v:Value}{l:List Int}(g:fj h (v,1,ints l))(h1:1<l.length): ∃v2,dQ E t v (some (.int .i64 1)) none none=some v2/\aA h 1 (encI .i64) v2 (l.drop 1)/\ ∀c,av v2 c->av v c:=by
 rcases g with⟨_,e2⟩|⟨b,n,e1,e2,e3⟩
 . simp only []at e2
   have h0:l.length=0:=by have:=congrArg List.length e2;rwa [cN]at this
   omega
 . simp only []at e1 e2 e3
   subst e1
   rw [cN,Xm]at e2
   subst e2
   refine⟨_,slice1 hu hs h1,.inr ⟨b,1,some 1,l.length-1,by rw [zU],by rw [zU];omega,?_⟩,fun c hc=>hc⟩
   rw [e3.load (by rw [cN,zU];omega),zU]
   have e4:(ints l).drop 1=ints (l.drop 1):=by rw [pz,pz,List.map_drop]
   rw [e4,List.take_of_length_le (by rw [cN,zU];omega)]
   rfl
theorem eE.drop1{N:Nat}{l:List Int}(h:eE N l):eE N (l.drop 1):=by
 refine⟨by rw [zU];have:=h.1;omega,fun i hi=>?_⟩
 rw [zU]at hi
 have e:(l.drop 1).getD i 0=l.getD (i+1) 0:=by
  rw [zM,zM,List.getElem?_drop,Nat.add_comm]
 have:=h.2 (i+1) (by omega)
 rw [e]
 refine⟨this.1,this.2.1,fun hm=>this.2.2 ?_⟩
 rw [List.take_drop]at hm
 have:=List.mem_of_mem_drop hm
 rwa [Nat.add_comm 1 i]at this
theorem made20_ok {h0:Hp} (ok:h0.t.Sized h0.n) {vB vM vN:Value} {xf xt xa:Int} {B ms:List Int} (hB:SlW h0 .u8 vB B) (hM:SlW h0 .u8 vM ms) (hMr: ∀x∈ms,0<=x/\x<=255) (fN:Fl vN):
 Ret zO 10 [.agg ⟨[vB,vM,.int .u8 xf,.int .u8 xt,.int .i8 xa,vN]⟩] h0 fun r h'=>Gr h0 h'/\ ∃γ vx vy va bp nb vR l,r=.tuple #[fW γ vx vy va,ptrTo bp,vR]/\Good γ/\cU h' vx vy va γ/\bN h' nb (ptrTo bp) γ/\aA h' 1 (encI .i64) vR l/\eE γ.nodes l/\1<=l.length/\l.length<=7/\γ.nodes=1+drV (B.take (min B.length 80)) 12 0:=by
 have S:=Si ok
 have fB:=hB.sl.fl
 have fM:=hM.sl.fl
 have mn:min (B.length:Int) 80=((min B.length 80:Nat):Int):=by omega
 obtain⟨vB',hsl,sB,bB⟩:=hB.low (kd':=.i64) (n:=min B.length 80) Tryz.u22 Tryz.s5 (Nat.min_le_left _ _)
 have fB':=sB.fl
 refine ab (n:=90) (rs:=[.cell 2 31,.tmp 3,.tmp 4]) rfl Tryz.e10 rfl rfl rfl (lbt rfl) ?_
 simp only [BS,Nat.reduceLT]
 refine ag (aZ (by intro x e;cases e)) S ?_;clear S;intro h b1 S n_b1;simp only [an]at S
 simp only [BS,Tryz.FFl20m10]
 refine ag aF S ?_;clear S;intro h b2 S n_b2
 simp only [BS,LB,Nat.reduceLT,Nat.reduceEqDiff,Nat.reduceAdd,Xb,Xr,Tryz.FFl20m10,hB.sl.lenq,mn,hsl,fB',S.ld (b:=b1) (o:=0) m1 rfl]
 refine ag (aZ (by intro x e;cases e)) S ?_;clear S;intro h bd S n_bd;simp only [an]at S
 have hB':aA h 1 (encI .u8) vB' (B.take (min B.length 80)):=sB.gr S.gr
 have nB: ¬av vB' bd:=fun hc=>by have:=sB.lt ok hc;omega
 have lb':(B.take (min B.length 80)).length<1000000:=by rw [List.length_take];omega
 simp only [BS,LB,Nat.reduceLT,Nat.reduceEqDiff]
 have k0:=S.fr.n
 have ap:=S.apart
 simp only [keys,Xd,Xn,zW,zQ,XR,zR,zP,or_false,not_or]at ap
 have lt2:=(S.row (b:=b2) m1).lt S.ok
 have lt1:=(S.row (b:=b1) m2).lt S.ok
 refine step_ret (raw0_ok S.ok (S.row m0) ⟨hB',nB,lb',by omega⟩) ?_
 rintro v h ⟨f,γ,vx,vy,va,rfl,hγ,eN,ga,hz⟩
 have gz: ∀c,(av vx c\/av vy c\/av va c)->c≠b1/\c≠b2/\c<h.n:=fun c hc=>⟨by have:=hz c hc;omega,by have:=hz c hc;omega,hc.elim (ga.X.blt f.ok) (fun h=>h.elim (ga.Y.blt f.ok) (ga.A.blt f.ok))⟩
 replace S:=S.drop1.step f (fun c hc=>by subst hc;exact .inr n_bd) (fun c hc e=>by simp [keys]at hc;omega)
 have fx:=ga.X.fl
 have fy:=ga.Y.fl
 have fa:=ga.A.fl
 have n1:=hγ.n1
 have n2:=hγ.n2
 have gS:=S.gr
 have S0:=S
 replace S:=S.base
 simp only [BS,Tryz.FFl20m10,fW]
 refine ag aF S ?_;clear S;intro h b6 S n_b6
 simp only [BS,LB,Nat.reduceLT,Nat.reduceEqDiff]
 refine aC (S.store (i:=0) rfl XF (by intro x e;cases e) rfl (by simp only [an,XL,XO,fx.2.1,fy.2.1,fa.2.1,Xj];rfl) (lbt rfl) ono) ?_
 clear S;rintro h ⟨S,mo⟩
 simp only [LC,an,lay,Xz,XA,Nat.reduceAdd]at S
 have ga2:=ga.mo S.fr (fun c hc hm=>by have:=hz c hc;simp [keys]at hm;omega)
 simp only [BS,LB,Nat.reduceLT,Nat.reduceEqDiff,Tryz.FFl20m10,List.drop_zero,List.take_succ_cons,List.take_zero,S.lds (b:=b6) (o:=0) (n:=4) m0 (lbt rfl)]
 have q6:=(S.row (b:=b6) m0).lt S.ok
 have q2:=(S.row (b:=b2) m1).lt S.ok
 have q1:=(S.row (b:=b1) m2).lt S.ok
 refine step_ret (netNew_ok S.ok hγ ga2) ?_
 rintro v h ⟨p,rfl,g,hp⟩
 replace S:=S.call g
 replace ga2:=ga2.gr g
 clear g
 obtain⟨bp,rfl⟩: ∃b,p=ptrTo b:=by obtain⟨b,_,_,_,_,_,e,_⟩:=hp.ex;exact⟨b,e⟩
 replace S:=S0.rebase S
 have gS2:=S.gr
 have okC:=S.ok
 clear S0
 replace S:=S.base
 simp only [LC,keys,Xd,Xn,zW]at S
 rename Hp=>hC0
 simp only [BS,LB,Nat.reduceLT,Nat.reduceEqDiff,Tryz.FFl20m10]
 refine ag (cm (by exact Xx) (by exact XG) (by decide) (by rfl)) S ?_;clear S;intro h bt S n_bt;simp only [LC,aY,bM,an,Nat.reduceMul,Nat.reduceAdd,Xs,Xt,Xm,Xw]at S
 simp only [BS,LB,Nat.reduceLT,Nat.reduceEqDiff,Tryz.FFl20m10,S.ld (b:=b6) (o:=0) m1 rfl]
 refine ag (oV (by exact Xx) (by exact XG) (by omega) (by omega)) S ?_;clear S;intro h bs S n_bs
 rw [Int.toNat_natCast,o6,show XS γ.nodes (Value.int .i64 0)=(Xo γ.nodes).map fun v=>Value.int .i64 (((fun _=>0:Nat->Nat) v:Nat):Int)from by rw [List.map_const',List.length_range];rfl]at S
 have i0:eR (.int .i64 0) γ.nodes=some 0:=eX (i:=0) (by omega)
 have lc0:=S.ld (b:=bs) (o:=0) m0 (jE (F:=fun v=>Value.int .i64 (((fun _=>0:Nat->Nat) v:Nat):Int)) (show 0<γ.nodes by omega))
 have w0:aq .i64 ((((fun _=>0:Nat->Nat) 0:Nat):Int)+1)=((1:Nat):Int):=rfl
 simp only [BS,LB,Nat.reduceLT,Nat.reduceEqDiff,Int.reduceAdd,zT,Tryz.FFl20m10,Int.toNat_natCast,i0,lc0]
 refine aC (aI S (i:=0) rfl XT bG (by simp;omega) ono) ?_
 clear S lc0;rintro h ⟨S,_⟩
 simp only [LC]at S
 have hMb: ∀c,av vM c->c<h0.n:=fun c hc=>hM.sl.lt ok hc
 have nb: ∀c,c<h0.n-> ¬c∈[b6,b2,b1]:=fun c hc hm=>by
  simp only [zR,zP,or_false]at hm
  have:=gS.n
  omega
 have nbG: ∀c,c∈[b6,b2,b1]->h0.n<=c:=fun c hm=>by
  simp only [zR,zP,or_false]at hm
  have:=gS.n
  omega
 have gaN: ∀c,(av vx c\/av vy c\/av va c)-> ¬c∈[b6,b2,b1]:=fun c hc hm=>by
  have:=gz c hc
  simp only [zR,zP,or_false]at hm
  omega
 have set0:((Xo γ.nodes).map fun v=>Value.int .i64 ((0:Nat):Int)).set 0 (.int .i64 (aq .i64 1))=(Xo γ.nodes).map fun u=>Value.int .i64 (((if u=0 then 1 else 0:Nat):Nat):Int):=by
  have:=j5 (N:=γ.nodes) (k:=0) (F:=fun v=>Value.int .i64 ((0:Nat):Int)) (F':=fun u=>Value.int .i64 (((if u=0 then 1 else 0:Nat):Nat):Int)) (fun u _ hu=>by simp [hu])
  rw [<-this];rfl
 rw [set0]at S
 simp only [BS]
 refine rG (fun ρ h'=> ∃(vR:Value) (l:List Int) (cs:List Value) (G:List GL),St (· ∈[b6,b2,b1]) hC0 h' [(bs,.row cs 1),(bt,.row [.int .i64 0] 1),(b6,.row [.int .i64 γ.nodes,vx,vy,va] 1),(b2,.row [.int .i64 0,.slice none 0 0,.slice none 0 0,.slice none 0 0] 1),(b1,.row [vB,vM,.int .u8 xf,.int .u8 xt,.int .i8 xa,vN] 1)] G/\((G=[]/\vR=.slice (some ⟨bt,0,none⟩) 1 1/\l=[0])\/G=[(vR,1,ints l)])/\eE γ.nodes l/\1<=l.length/\l.length<=7/\ρ 1=ptrTo b1/\ρ 2=ptrTo b2/\ρ 6=ptrTo b6/\ρ 7=ptrTo bp/\ρ 9=vR)
  (fun(i:Nat) ρ h'=>i<=ms.length/\i<=6/\ ∃(vR:Value) (l:List Int) (cnt:Nat->Nat) (G:List GL),St (· ∈[b6,b2,b1]) hC0 h' [(bs,.row ((Xo γ.nodes).map fun v=>.int .i64 ((cnt v:Nat):Int)) 1),(bt,.row [.int .i64 0] 1),(b6,.row [.int .i64 γ.nodes,vx,vy,va] 1),(b2,.row [.int .i64 0,.slice none 0 0,.slice none 0 0,.slice none 0 0] 1),(b1,.row [vB,vM,.int .u8 xf,.int .u8 xt,.int .i8 xa,vN] 1)] G/\((G=[]/\vR=.slice (some ⟨bt,0,none⟩) 1 1/\l=[0])\/G=[(vR,1,ints l)])/\eE γ.nodes l/\1<=l.length/\l.length<=i+1/\(∀v,v<γ.nodes->cnt v<=i+1/\(cnt v=0↔(v:Int)∉l))/\
    ρ 1=ptrTo b1/\ρ 2=ptrTo b2/\ρ 6=ptrTo b6/\ρ 7=ptrTo bp/\ρ 9=vR/\ρ 10=.slice (some ⟨bs,0,none⟩) γ.nodes γ.nodes/\ρ 11=.int .i64 i) (fun i=>ms.length-i) ?_ ?_ 0 ?_
 . clear S
   intro i ih ρ h' ⟨hi,hi6,vR,l,cnt,G,S,hG,hl,hl1,hli,hc,r1,r2,r6,r7,r9,r10,r11⟩
   have hM':=(hM.sl.gr gS2).mo S.fr (fun c hc=>nb c (hMb c hc))
   have fin: ∀(n:Nat) (d:List Deferred) (rc:Option (Value×Bool)) (ρ':Nat->Value),ρ' 1=ptrTo b1->ρ' 2=ptrTo b2->ρ' 6=ptrTo b6->ρ' 7=ptrTo bp->ρ' 9=vR->JP n d rc (fun ρ h'=> ∃(vR:Value) (l:List Int) (cs:List Value) (G:List GL),St (· ∈[b6,b2,b1]) hC0 h' [(bs,.row cs 1),(bt,.row [.int .i64 0] 1),(b6,.row [.int .i64 γ.nodes,vx,vy,va] 1),(b2,.row [.int .i64 0,.slice none 0 0,.slice none 0 0,.slice none 0 0] 1),(b1,.row [vB,vM,.int .u8 xf,.int .u8 xt,.int .i8 xa,vN] 1)] G/\((G=[]/\vR=.slice (some ⟨bt,0,none⟩) 1 1/\l=[0])\/G=[(vR,1,ints l)])/\eE γ.nodes l/\1<=l.length/\l.length<=7/\ρ 1=ptrTo b1/\ρ 2=ptrTo b2/\ρ 6=ptrTo b6/\ρ 7=ptrTo bp/\ρ 9=vR) .normal (LL n ρ' d rc) h':=fun n d rc ρ' e1 e2 e6 e7 e9=>iF ⟨vR,l,_,G,S,hG,hl,hl1,by omega,e1,e2,e6,e7,e9⟩
   by_cases hlt:i<ms.length
   . by_cases h6:i<6
     . have c6:(i:Int)<6:=by omega
       obtain⟨c,o,hidx,hld⟩:=hM'.ix (kd:=.i64) (dV .u8) hlt
       have hx:=hMr _ (Xh hlt)
       obtain⟨x,ex⟩: ∃x:Nat,ms[i]=x:=⟨ms[i].toNat,by omega⟩
       rw [ex]at hld hx
       have wc:aq .i64 (x:Int)=(x:Int):=by rw [wrap64]<;>omega
       have nz:(γ.nodes:Int)≠0:=by omega
       have tm:(x:Int).tmod (γ.nodes:Int)=((x%γ.nodes:Nat):Int):=by rw [XM (by omega)];exact(Int.natCast_emod _ _).symm
       have hmod:x%γ.nodes<γ.nodes:=Nat.mod_lt _ (by omega)
       have w:aq .i64 ((i:Int)+1)=((i+1:Nat):Int):=by rw [wrap64]<;>omega
       simp only [BS,LB,Nat.reduceLT,Nat.reduceEqDiff,Tryz.FFl20m10,r1,r11,hM.sl.lenq,aP,hlt,c6,S.ld (b:=b1) (o:=1) m4 rfl]
       refine aD (aM rfl) (q:=0) (ps:=[]) (by kernel_rfl) ?_
       simp only [BS,LB,jH,bW,jz,cls,Nat.reduceLT,Nat.reduceEqDiff,Nat.reduceAdd,Nat.reducePow,Nat.reduceDiv,Nat.reduceMod,Nat.reduceLeDiff,Tryz.FFl20m10,r1,r6,r10,r11,hidx,hld,encI,wc,nQ nz,tm,S.ld (b:=b6) (o:=0) m2 rfl,S.ld (b:=b1) (o:=1) m4 rfl]
       generalize x%γ.nodes=v at hmod
       obtain⟨cle,ciff⟩:=hc v hmod
       have lc:=S.ld (b:=bs) (o:=v) m0 (jE (F:=fun v=>Value.int .i64 ((cnt v:Nat):Int)) hmod)
       have w2:aq .i64 ((cnt v:Int)+1)=((cnt v+1:Nat):Int):=by rw [wrap64]<;>omega
       have setc:((Xo γ.nodes).map fun v=>Value.int .i64 ((cnt v:Nat):Int)).set v (.int .i64 ((cnt v+1:Nat):Int))=(Xo γ.nodes).map fun u=>Value.int .i64 (((if u=v then cnt v+1 else cnt u:Nat):Nat):Int):=by
        have:=j5 (N:=γ.nodes) (k:=v) (F:=fun v=>Value.int .i64 ((cnt v:Nat):Int)) (F':=fun u=>Value.int .i64 (((if u=v then cnt v+1 else cnt u:Nat):Nat):Int)) (fun u _ hu=>by simp [hu])
        rw [<-this];simp
       clear hM' fin
       by_cases hz:cnt v=0
       . have hz':((cnt v:Nat):Int)=0:=by omega
         simp only [BS,LB,Nat.reduceLT,Nat.reduceEqDiff,Tryz.FFl20m10,r9,hmod,lc,hz']
         refine ag (cm (by exact Xx) (by exact XG) (by decide) (by rfl)) S ?_;clear S;intro h bu S n_bu;simp only [LC,aY,bM,an,Nat.reduceMul,Nat.reduceAdd,Xs,Xt,Xm,Xw]at S
         simp only [BS,LB,Nat.reduceLT,Nat.reduceEqDiff]
         have src:aO h 1 (.slice (some ⟨bu,0,none⟩) 1 1)=some (1,ints [(v:Int)]):=by simp only [aO];rw [S.lds (b:=bu) (o:=0) (n:=1*1) m0 (lbt rfl)];rfl
         replace S:=S.drop1
         have apd: ∃h' v',cL zO h [33,33] vR (.slice (some ⟨bu,0,none⟩) 1 1)=some (h',v')/\St (· ∈[b6,b2,b1]) hC0 h' [(bs,.row ((Xo γ.nodes).map fun v=>.int .i64 ((cnt v:Nat):Int)) 1),(bt,.row [.int .i64 0] 1),(b6,.row [.int .i64 γ.nodes,vx,vy,va] 1),(b2,.row [.int .i64 0,.slice none 0 0,.slice none 0 0,.slice none 0 0] 1),(b1,.row [vB,vM,.int .u8 xf,.int .u8 xt,.int .i8 xa,vN] 1)] [(v',1,ints (l++[(v:Int)]))]:=by
          rcases hG with⟨rfl,rfl,rfl⟩|rfl
          . rw [nD]
            exact St.growB S (b:=bt) (len:=1) (m:=1) (new:=ints [(v:Int)]) (S.row m1) rfl Xx XG (by decide) Tryz.n33 src rfl (by decide) (by decide) (by rw [cN];exact lbt rfl)
          . rw [nD]
            exact S.grow (j:=0) (m:=1) (new:=ints [(v:Int)]) rfl Xx XG (by decide) Tryz.n33 src rfl (by decide) rfl (by rw [cN,cN];simp;omega)
         refine fL apd ?_
         clear S src hG apd;rintro h vR' S
         have lc:=S.ld (b:=bs) (o:=v) m0 (jE (F:=fun v=>Value.int .i64 ((cnt v:Nat):Int)) hmod)
         simp only [BS,LB,Nat.reduceLT,Nat.reduceEqDiff,Tryz.FFl20m10,r10,hmod,lc,w2]
         refine aC (aI S (i:=0) rfl XT bG (by simpa using hmod) ono) ?_
         clear S lc;rintro h ⟨S,_⟩
         simp only [LC]at S
         rw [setc]at S
         simp only [BS,LB,Nat.reduceLT,Nat.reduceEqDiff,r11,w]
         refine ih (i+1) _ _ (by omega) ⟨by omega,by omega,_,l++[(v:Int)],fun u=>if u=v then cnt v+1 else cnt u,_,S,.inr rfl,hl.push (by omega) (by omega) (by omega) (ciff.1 hz),by simp,by simp;omega,fun u hu=>?_,by simp [aa,r1,ae],by simp [aa,r2,ae],by simp [aa,r6,ae],by simp [aa,r7,ae],by simp [aa],by simp [aa,r10],by simp [aa]⟩
         have:=hc u hu
         by_cases e:u=v
         . subst e;simp;omega
         . have e': ¬((u:Int)=(v:Int)):=by omega
           simp only [e,if_false,List.mem_append,List.mem_singleton,e',or_false]
           exact⟨by omega,this.2⟩
       . have hz': ¬((cnt v:Nat):Int)=0:=by omega
         simp only [BS,LB,Nat.reduceLT,Nat.reduceEqDiff,Tryz.FFl20m10,r10,hmod,lc,hz',w2]
         refine aC (aI S (i:=0) rfl XT bG (by simpa using hmod) ono) ?_
         clear S lc;rintro h ⟨S,_⟩
         simp only [LC]at S
         rw [setc]at S
         simp only [BS,LB,Nat.reduceLT,Nat.reduceEqDiff,r11,w]
         refine ih (i+1) _ _ (by omega) ⟨by omega,by omega,_,l,fun u=>if u=v then cnt v+1 else cnt u,G,S,hG,hl,hl1,by omega,fun u hu=>?_,by simp [aa,r1,ae],by simp [aa,r2,ae],by simp [aa,r6,ae],by simp [aa,r7,ae],by simp [aa,r9],by simp [aa,r10],by simp [aa]⟩
         have:=hc u hu
         by_cases e:u=v
         . subst e
           simp only [if_true]
           exact⟨by omega,by constructor<;>intro h<;>first|omega|exact absurd (this.2.2 h) hz⟩
         . simp only [e,if_false];exact⟨by omega,this.2⟩
     . have c6: ¬(i:Int)<6:=by omega
       simp only [BS,LB,Nat.reduceLT,Nat.reduceEqDiff,Tryz.FFl20m10,r1,r11,hM.sl.lenq,aP,hlt,c6,S.ld (b:=b1) (o:=1) m4 rfl]
       exact fin _ _ _ _ (by simp [aa,r1,ae]) (by simp [aa,r2,ae]) (by simp [aa,r6,ae]) (by simp [aa,r7,ae]) (by simp [aa,r9])
   . simp only [BS,LB,Nat.reduceLT,Nat.reduceEqDiff,Tryz.FFl20m10,r1,r11,hM.sl.lenq,aP,hlt,S.ld (b:=b1) (o:=1) m4 rfl]
     exact fin _ _ _ _ (by simp [aa,r1,ae]) (by simp [aa,r2,ae]) (by simp [aa,r6,ae]) (by simp [aa,r7,ae]) (by simp [aa,r9])
 . clear S
   intro ρ h' ⟨vR,l,cs,G,S,hG,hl,hl1,hl7,r1,r2,r6,r7,r9⟩
   have sR:aA h' 1 (encI .i64) vR l:=by
    rcases hG with⟨_,rfl,rfl⟩|rfl
    . exact .inr ⟨bt,0,none,1,rfl,Xa _,S.lds (b:=bt) (o:=0) (n:=1*1) m1 (lbt rfl)⟩
    . exact(S.gown _ m0).1.sl rfl (fun _=>rfl) (by decide)
   have nRb: ∀c,av vR c->c≠b2:=fun c hc=>by
    rcases hG with⟨_,rfl,rfl⟩|rfl
    . have e:c=bt:=hc.symm
      have ap:=S.apart
      simp [keys]at ap
      intro h
      omega
    . intro e
      exact(S.gblk m0 hc).2 (by rw [e];simp)
   have tm2:((ms.length:Nat):Int).tmod 2=((ms.length%2:Nat):Int):=by rw [XM (by omega)];exact(Int.natCast_emod _ _).symm
   have l64:=S.lds (b:=b6) (o:=0) (n:=4) m2 (lbt rfl)
   simp only [XA,Xz]at l64
   by_cases h2:ms.length%2=1
   . have h2':((ms.length%2:Nat):Int)=1:=by omega
     by_cases hl2:1<l.length
     . have hl2':(1:Int)<(l.length:Int):=by omega
       have hG':G=[(vR,1,ints l)]:=hG.resolve_left (fun⟨_,_,e⟩=>by rw [e]at hl2;simp at hl2)
       subst hG'
       obtain⟨v2,hs2,s2,n2b⟩:=sl_drop1 (E:=zO) Xx XT (S.gown _ m0).1 hl2
       simp only [BS,LB,Nat.reduceLT,Nat.reduceEqDiff,Xb,Xr,Tryz.FFl20m10,r1,r2,r6,r7,r9,hM.sl.lenq,nQ (show(2:Int)≠0 by decide),tm2,h2',sR.lenq,hl2',hs2,l64,S.ld (b:=b1) (o:=1) m4 rfl]
       refine aC (S.store (i:=3) rfl XF (by intro x e;cases e) rfl (by simp only [an,XL,XO,fx.2.1,fy.2.1,fa.2.1,Xj];rfl) (lbt rfl) ono) ?_
       clear S;rintro h3 ⟨S,mo3⟩
       simp only [LC,an,lay,Xz,XA,Nat.reduceAdd]at S
       simp only [BS,LB,ac,Nat.reduceLT,Nat.reduceEqDiff]
       refine(dk (by decide) (by simp only [aS,r2,ae,Nat.reduceEqDiff,reduceIte];exact cw Tryz.a31 XF (S.lds (b:=b2) (o:=0) (n:=4) m3 (lbt rfl)))).2 ?_
       refine(fu (by decide)).2 ((fu (by decide)).2 (dZ.2 ?_))
       have gZ:Gr h0 h3:=(gS2.fr.trans S.fr (fun c hc=>.inr (nbG c hc)):Mo NoM h0 h3).gr
       exact⟨gZ,γ,vx,vy,va,bp,_,_,_,rfl,hγ,ga2.mo S.fr (fun c hc hm=>gaN c hc hm),hp.mo S.fr (fun c hm=>by simp only [zR,zP,or_false]at hm;omega),s2.mo mo3 (fun c hc e=>nRb c (n2b c hc) e),hl.drop1,by rw [zU];omega,by rw [zU];omega,eN⟩
     . have hl2': ¬(1:Int)<(l.length:Int):=by omega
       simp only [BS,LB,Nat.reduceLT,Nat.reduceEqDiff,Tryz.FFl20m10,r1,r2,r6,r7,r9,hM.sl.lenq,nQ (show(2:Int)≠0 by decide),tm2,h2',sR.lenq,hl2',l64,S.ld (b:=b1) (o:=1) m4 rfl]
       refine aC (S.store (i:=3) rfl XF (by intro x e;cases e) rfl (by simp only [an,XL,XO,fx.2.1,fy.2.1,fa.2.1,Xj];rfl) (lbt rfl) ono) ?_
       clear S;rintro h3 ⟨S,mo3⟩
       simp only [LC,an,lay,Xz,XA,Nat.reduceAdd]at S
       simp only [BS,LB,ac,Nat.reduceLT,Nat.reduceEqDiff]
       refine(dk (by decide) (by simp only [aS,r2,ae,Nat.reduceEqDiff,reduceIte];exact cw Tryz.a31 XF (S.lds (b:=b2) (o:=0) (n:=4) m3 (lbt rfl)))).2 ?_
       refine(fu (by decide)).2 ((fu (by decide)).2 (dZ.2 ?_))
       have gZ:Gr h0 h3:=(gS2.fr.trans S.fr (fun c hc=>.inr (nbG c hc)):Mo NoM h0 h3).gr
       exact⟨gZ,γ,vx,vy,va,bp,_,_,_,rfl,hγ,ga2.mo S.fr (fun c hc hm=>gaN c hc hm),hp.mo S.fr (fun c hm=>by simp only [zR,zP,or_false]at hm;omega),sR.mo mo3 (fun c hc e=>nRb c hc e),hl,hl1,hl7,eN⟩
   . have h2': ¬((ms.length%2:Nat):Int)=1:=by omega
     . simp only [BS,LB,Nat.reduceLT,Nat.reduceEqDiff,Tryz.FFl20m10,r1,r2,r6,r7,r9,hM.sl.lenq,nQ (show(2:Int)≠0 by decide),tm2,h2',l64,S.ld (b:=b1) (o:=1) m4 rfl]
       refine aC (S.store (i:=3) rfl XF (by intro x e;cases e) rfl (by simp only [an,XL,XO,fx.2.1,fy.2.1,fa.2.1,Xj];rfl) (lbt rfl) ono) ?_
       clear S;rintro h3 ⟨S,mo3⟩
       simp only [LC,an,lay,Xz,XA,Nat.reduceAdd]at S
       simp only [BS,LB,ac,Nat.reduceLT,Nat.reduceEqDiff]
       refine(dk (by decide) (by simp only [aS,r2,ae,Nat.reduceEqDiff,reduceIte];exact cw Tryz.a31 XF (S.lds (b:=b2) (o:=0) (n:=4) m3 (lbt rfl)))).2 ?_
       refine(fu (by decide)).2 ((fu (by decide)).2 (dZ.2 ?_))
       have gZ:Gr h0 h3:=(gS2.fr.trans S.fr (fun c hc=>.inr (nbG c hc)):Mo NoM h0 h3).gr
       exact⟨gZ,γ,vx,vy,va,bp,_,_,_,rfl,hγ,ga2.mo S.fr (fun c hc hm=>gaN c hc hm),hp.mo S.fr (fun c hm=>by simp only [zR,zP,or_false]at hm;omega),sR.mo mo3 (fun c hc e=>nRb c hc e),hl,hl1,hl7,eN⟩
 . refine⟨Xg _,Xg _,_,[0],fun u=>if u=0 then 1 else 0,[],S,.inl ⟨rfl,rfl,rfl⟩,(mayL_nil _).push (by simp) (by omega) (by omega) (by simp),by simp,by simp,fun v hv=>?_,by simp [aa,ae],by simp [aa,ae],by simp [aa,ae],by simp [aa,ae],by simp [aa],by simp [aa],by simp [aa]⟩
   by_cases e:v=0
   . subst e;simp
   . simp [e]
def Tryz.FFbo1161:=aj Z1<|aj Z2<|aj Z0<|aj Z3<|aj Z16<|aj Z23<|aj Z28<|aj Z20<|aj Z24<|Z30
def Tryz.FFbo1158:=aj Z1<|aj Z2<|aj Z0<|aj Z3<|aj Z5<|aj Z10<|aj Z4<|aj Z25<|aj Z33<|aj Z34<|aj Z35<|aj Z11<|aj Z42<|aj Z43<|aj Z44<|Z45
def Tryz.FFbo1154:=aj Z1<|aj Z0<|aj Z3<|aj Z6<|aj Z10<|aj Z12<|Z11
def Tryz.FFbo183:=aj Z1<|aj Z2<|aj Z0<|aj Z3<|aj Z5<|aj Z6<|aj Z10<|aj Z33<|aj Z35<|aj Z12<|aj Z11<|aj Z49<|Z81
theorem qm{h0:Hp}(ok:h0.t.Sized h0.n){F:List Nat}{p:Value}{N:Nat}{K:Nat->Option Int}(H:bj h0 F p N K):
 ∃(k:Int) (b:Bool),bK zO 161 [p] h0 (.tuple #[.int .i64 k,.bool b])/\((b=false/\ ∀v,K v=none)\/(b=true/\ ∃v,iA K v k)):=by
 obtain⟨m,hlen,hm⟩:=pK ok H
 obtain⟨bh,bm,l,rfl,ho,hc,hlt,hx⟩:=H.ex
 by_cases h0':m=0
 . refine⟨0,false,?_,.inl ⟨rfl,hm.1 h0'⟩⟩
   subst h0'
   have S:=Si ok
   refine ab (n:=15) (rs:=[.tmp 2,.tmp 3]) rfl Tryz.e161 rfl rfl rfl (lbt rfl) ?_
   simp only [BS,LB,Nat.reduceLT,Nat.reduceEqDiff]
   refine au (hlen) ?_;intro h g;replace S:=S.call g;clear g
   simp only [BS,LB,ac,Nat.reduceLT,Nat.reduceEqDiff,zT]
   exact S.gr
 . have hm0: ¬((m:Int)=0):=by omega
   rcases hx with⟨rfl,_⟩|⟨bl,cap,rfl,R⟩
   . exact absurd (hm.2 hc.nil) h0'
   . have hpos:0<l.length:=by
      cases l with
      |nil=>exact absurd (hm.2 hc.nil) h0'
      |cons x l=>simp
     refine⟨(l.getD 0 default).key,true,?_,.inr ⟨rfl,(l.getD 0 default).id,hc.at hpos,fun u k' hu=>?_⟩⟩
     . have S:=Si ok
       refine ab (n:=15) (rs:=[.tmp 2,.tmp 3]) rfl Tryz.e161 rfl rfl rfl (lbt rfl) ?_
       simp only [BS,LB,Nat.reduceLT,Nat.reduceEqDiff]
       refine au (hlen) ?_;intro h g;replace S:=S.call g;replace R:=R.gr g;clear g
       obtain⟨cs,es,c,f,hcs,hmp,C,MI,IF⟩:=R.ex
       have r0:=R.row.load1 (o:=0) rfl
       have l2:=C.ld2 hcs hpos
       have l21:h.load bl (0*2+1) 1=some [.int .i64 (l.getD 0 default).key]:=jv l2 (i:=1) (m:=1) (by omega)
       have i0:eR (.int .i64 0) l.length=some 0:=eX (i:=0) hpos
       simp only [BS,LB,ac,Nat.reduceLT,Nat.reduceEqDiff,Tryz.FFbo1161,hm0,r0,i0,l21]
       exact S.gr
     . obtain⟨j,hj,e⟩:=hc.idx hu
       have:=wX ho j hj
       rw [e]at this
       unfold Ab.hle at this
       simp only []at this
       omega
theorem bpi_ok{h0:Hp}(ok:h0.t.Sized h0.n){br v:Nat}{vPi:Value}{pis:List Int}(l4:h0.load br 4 1=some [vPi])(sP:aA h0 1 (encI .i64) vPi pis)(hv:v<pis.length):
 bK zO 158 [ptrTo br,.int .i64 (v:Nat)] h0 (.tuple #[.int .i64 (pis.getD v 0),.bool (decide (-(FAR:Int)<pis.getD v 0/\pis.getD v 0<FAR))]):=by
 have S:=Si ok
 have fr:=gO
 have hn: ¬((pis.length:Int)=0):=by omega
 obtain⟨c,o,x0,y0⟩:=sP.ix (kd:=.i64) (dV .i64) hv
 have e:pis.getD v 0=pis[v]:=by rw [zM,XP hv,zV]
 rw [e]
 generalize pis[v]=p at y0
 replace y0:h0.load c o 1=some [.int .i64 p]:=y0
 refine ab (n:=29) (rs:=[.tmp 4,.tmp 5]) rfl Tryz.e158 rfl rfl rfl (lbt rfl) ?_
 by_cases c1:(-72057594037927936:Int)<p
 . by_cases c2:p<72057594037927936
   . simp only [BS,LB,ac,Nat.reduceLT,Nat.reduceEqDiff,Nat.reduceAdd,Tryz.FFbo1158,l4,sP.lenq,hn,x0,y0,c1,c2]
     refine⟨?_,S.gr⟩
     rw [decide_eq_true (by omega)]
   . simp only [BS,LB,ac,Nat.reduceLT,Nat.reduceEqDiff,Nat.reduceAdd,Tryz.FFbo1158,l4,sP.lenq,hn,x0,y0,c1,c2]
     refine⟨?_,S.gr⟩
     rw [decide_eq_false (by omega)]
 . simp only [BS,LB,ac,Nat.reduceLT,Nat.reduceEqDiff,Nat.reduceAdd,Tryz.FFbo1158,l4,sP.lenq,hn,x0,y0,c1]
   refine⟨?_,S.gr⟩
   rw [decide_eq_false (by omega)]
theorem pair_nl{x:Option Tch}:iT none x=true:=by cases x<;>rfl
theorem pair_nr{x:Option Tch}:iT x none=true:=by
 cases x with
 |none=>rfl
 |some x=>cases x<;>rfl
theorem uk{h0:Hp}(ok:h0.t.Sized h0.n){γ:Gra}{nb b2 v:Nat}{p:Value}(hn:bN h0 nb p γ)(l2:h0.load b2 0 1=some [p])(hv:v<γ.nodes):bK zO 154 [.int .i64 (v:Nat),ptrTo b2] h0 (.bool true):=by
 have S:=Si ok
 have c0:(0:Int)<=(v:Int):=by omega
 refine ab (n:=12) (rs:=[.tmp 3]) rfl Tryz.e154 rfl rfl rfl (lbt rfl) ?_
 simp only [BS,LB,Nat.reduceLT,Nat.reduceEqDiff,Tryz.FFbo1154,l2,c0]
 refine au (dP S.ok hn) ?_
 intro h1 g1;replace S:=S.call g1
 simp only [BS,LB,ac,Nat.reduceLT,Nat.reduceEqDiff,aP,hv]
 exact S.gr
theorem uM{h0:Hp}(ok:h0.t.Sized h0.n){a b:Nat}(h:a=0\/a=b):bK zO 155 [.int .i64 (a:Nat),.int .i64 (b:Nat)] h0 (.bool true):=by
 have S:=Si ok
 refine ab (n:=12) (rs:=[.tmp 4]) rfl Tryz.e155 rfl rfl rfl (lbt rfl) ?_
 by_cases c:a=0
 . subst c
   simp only [BS,LB,ac,Nat.reduceLT,Nat.reduceEqDiff,zT]
   exact S.gr
 . have e:a=b:=h.resolve_left c
   subst e
   have c': ¬(a:Int)=0:=by omega
   simp only [BS,LB,ac,Nat.reduceLT,Nat.reduceEqDiff,c']
   exact S.gr
theorem right_ok{h0:Hp}(ok:h0.t.Sized h0.n){γ:Gra}{nb bp s to:Nat}{vPi:Value}{pis:List Int}(hn:bN h0 nb (ptrTo bp) γ)(hs:s<γ.nodes)(ht:to<γ.nodes)(sP:aA h0 1 (encI .i64) vPi pis)(lP:pis.length=γ.nodes):
 bK zO 83 [ptrTo bp,.agg ⟨[.int .i64 (s:Nat),.int .i64 (to:Nat),.slice none 0 0,vPi]⟩] h0 (.bool true):=by
 have S:=Si ok
 have fP:=sP.fl
 obtain⟨bi,oi,si,ci,rfl⟩: ∃b o s c,vPi=.slice (some ⟨b,o,s⟩) pis.length c:=by
  rcases sP with⟨_,rfl⟩|⟨b,o,s,c,e,_⟩
  . simp at lP;omega
  . exact⟨b,o,s,c,e⟩
 have ti:bi<h0.n:=sP.blt ok rfl
 refine ab (n:=36) (rs:=[.tmp 4]) rfl Tryz.e83 rfl rfl rfl (lbt rfl) ?_
 simp only [BS,Nat.reduceLT]
 refine ag (cI (by exact dX)) S ?_;clear S;intro h b2 S n_b2
 simp only [BS,Nat.reduceLT,Nat.reduceEqDiff,if_false]
 refine ag (aZ (by intro x e;cases e)) S ?_;clear S;intro h b3 S n_b3;simp only [an]at S
 simp only [BS,LB,Nat.reduceLT,Nat.reduceEqDiff]
 have t2:=(S.row (b:=b2) m1).lt S.ok
 have t3:=(S.row (b:=b3) m0).lt S.ok
 have k0:=S.gr.n
 refine aD (aM rfl) (q:=0) (ps:=[(23,25),(22,25),(14,16),(13,16)]) (by kernel_rfl) ?_
 simp only [BS,LB,cls,Nat.reduceLT,Nat.reduceEqDiff,Nat.reduceAdd,Nat.reducePow,Nat.reduceDiv,Nat.reduceMod,Nat.reduceLeDiff,Tryz.FFbo183,S.ld (b:=b3) (o:=0) m0 rfl]
 refine df (uk S.ok (hn.gr S.gr) (S.ld (b:=b2) (o:=0) m1 rfl) hs) ?_
 intro h1 g1
 have e2:=aw g1 t2
 have e3:=aw g1 t3
 have f1:=aw g1 (show bi<_ by omega)
 have k1:=g1.n
 replace S:=S.call g1;clear g1
 simp only [BS,LB,cls,Nat.reduceLT,Nat.reduceEqDiff,Nat.reduceAdd,Nat.reducePow,Nat.reduceDiv,Nat.reduceMod,Nat.reduceLeDiff,Tryz.FFbo183,S.ld (b:=b3) (o:=1) m0 rfl]
 refine df (uk S.ok (hn.gr S.gr) (S.ld (b:=b2) (o:=0) m1 rfl) ht) ?_
 intro h2 g2
 have e4:=aw g2 (XH t2 k1)
 have e5:=aw g2 (XH t3 k1)
 have f2:=aw g2 (show bi<_ by omega)
 have k2:=g2.n
 replace S:=S.call g2;clear g2
 simp only [BS,LB,cls,Nat.reduceLT,Nat.reduceEqDiff,Nat.reduceAdd,Nat.reducePow,Nat.reduceDiv,Nat.reduceMod,Nat.reduceLeDiff,zT,Tryz.FFbo183,S.ld (b:=b3) (o:=2) m0 rfl,S.ld (b:=b2) (o:=0) m1 rfl]
 refine df (yJ S.ok (hn.gr S.gr)) ?_
 intro h3 g3
 have e6:=aw g3 (show b2<h2.n by omega)
 have e7:=aw g3 (show b3<h2.n by omega)
 have f3:=aw g3 (show bi<_ by omega)
 have k3:=g3.n
 replace S:=S.call g3;clear g3
 simp only [BS,LB,cls,Nat.reduceLT,Nat.reduceEqDiff,Nat.reduceAdd,Nat.reducePow,Nat.reduceDiv,Nat.reduceMod,Nat.reduceLeDiff]
 refine df (uM (a:=0) (b:=γ.arcs.length) S.ok (.inl rfl)) ?_
 intro h4 g4
 have e8:=aw g4 (show b2<h3.n by omega)
 have e9:=aw g4 (show b3<h3.n by omega)
 have f4:=aw g4 (show bi<_ by omega)
 have k4:=g4.n
 replace S:=S.call g4;clear g4
 simp only [BS,LB,cls,Nat.reduceLT,Nat.reduceEqDiff,Nat.reduceAdd,Nat.reducePow,Nat.reduceDiv,Nat.reduceMod,Nat.reduceLeDiff,Tryz.FFbo183,(sP.gr S.gr).lenq,S.ld (b:=b3) (o:=3) m0 rfl,S.ld (b:=b2) (o:=0) m1 rfl]
 refine df (dP S.ok (hn.gr S.gr)) ?_
 intro h5 g5
 have ea:=aw g5 (show b2<h4.n by omega)
 have eb:=aw g5 (show b3<h4.n by omega)
 have f5:=aw g5 (show bi<_ by omega)
 have k5:=g5.n
 replace S:=S.call g5;clear g5
 simp only [BS,LB,cls,Nat.reduceLT,Nat.reduceEqDiff,Nat.reduceAdd,Nat.reducePow,Nat.reduceDiv,Nat.reduceMod,Nat.reduceLeDiff]
 refine df (uM (a:=pis.length) (b:=γ.nodes) S.ok (.inr lP)) ?_
 intro h6 g6
 have ec:=aw g6 (show b2<h5.n by omega)
 have ed:=aw g6 (show b3<h5.n by omega)
 have f6:=aw g6 (show bi<h5.n by omega)
 replace S:=S.call g6
 simp only [BS,LB,cls,ac,Nat.reduceLT,Nat.reduceEqDiff,Nat.reduceAdd,Nat.reducePow,Nat.reduceDiv,Nat.reduceMod,Nat.reduceLeDiff]
 refine⟨by simp only [bH,bO,bg,bV,bD,ne_eq,not_false_eq_true,bU,cu,bJ,bF,cB,dt,aS,Nat.reduceLT,Nat.reduceEqDiff,reduceIte,Xj,ae,vm,ui,mK,pair_nl,pair_nr,aB e2,aG e2,aB e3,aG e3,aB e4,aG e4,aB e5,aG e5,aB e6,aG e6,aB e7,aG e7,aB e8,aG e8,aB e9,aG e9,aB ea,aG ea,aB eb,aG eb,aB ec,aG ec,aB ed,aG ed,aB f1,aG f1,aB f2,aG f2,aB f3,aG f3,aB f4,aG f4,aB f5,aG f5,aB f6,aG f6],?_⟩
 exact S.gr
end Go.Ab
end
section
namespace Go.Ab
open Go.Proofs
set_option maxRecDepth 10000
def Tryz.FFbo290:=aj Z1<|aj Z2<|aj Z0<|aj Z3<|aj Z7<|aj Z9<|aj Z14<|aj Z5<|aj Z10<|aj Z4<|aj Z25<|aj Z33<|aj Z31<|aj Z34<|aj Z35<|aj Z11<|aj Z26<|aj Z42<|aj Z43<|aj Z44<|aj Z45<|aj Z32<|aj Z16<|aj Z23<|aj Z50<|aj Z51<|aj Z20<|Z24
structure Sx where
 b:Nat
 p:Nat
 ml:Nat
 ma:Nat
 mc:Nat
 vA:Value
 vH:Value
 el:List (Value×Value×Nat)
 cl:Nat
 ea:List (Value×Value×Nat)
 ca:Nat
 ec:List (Value×Value×Nat)
 cc:Nat
def eu(i:Bool):Nat:=if i then 1 else 0
def iN(i:Bool):Int:=if i then-1 else 1
def Sx.row(x:Sx)(i:Bool):List Value:=[ptrTo x.p,.int .i64 (eu i:Nat),.int .i64 (iN i),x.vA,x.vH,.map (some x.ml),.map (some x.ma),.map (some x.mc)]
def Sx.L(x:Sx)(i:Bool):List (Nat×Ob):=[(x.b,.row (x.row i) 1),(x.ml,.map x.el x.cl),(x.ma,.map x.ea x.ca),(x.mc,.map x.ec x.cc)]
structure Sx.Ok(x:Sx)(s:Sd):Prop where
 ml: ∃f,cM x.el x.cl f/\ ∀v:Nat,f v=(s.L v).map fun(l:Nat)=>Value.int .i64 l
 ma: ∃f,cM x.ea x.ca f/\ ∀v:Nat,(s.L v).isSome=true->f v=some (.int .i64 (byI (s.P v)))
 mc: ∃f,cM x.ec x.cc f/\ ∀v:Nat,f v=if v∈s.O then some (.int .i64 1)else none
def fd(e:Ev2):List Value:=[.int .i64 (e.kind:Nat),.int .i64 (eu e.side:Nat),.int .i64 (e.id:Nat),.int .i64 (e.lab:Nat)]
def eW(pn:Value)(s t:Nat)(vPi:Value)(X:Bool->Sx)(vE:Value)(σ:Bi):List Value:=[pn,.int .i64 (s:Nat),.int .i64 (t:Nat),.slice none 0 0,vPi,ptrTo (X false).b,ptrTo (X true).b,.int .i64 (σ.dist:Nat),.slice none 0 0,vE,.int .i64 (σ.meet:Nat)]
def boL(i:Bool)(br:Nat)(pn:Value)(s t:Nat)(vPi:Value)(X:Bool->Sx)(vE:Value)(σ:Bi):List (Nat×Ob):=(br,.row (eW pn s t vPi X vE σ) 1)::((X i).L i++(X (!i)).L (!i))
def boG(vE:Value)(σ:Bi):List GL:=[(vE,4,σ.ev.flatMap fd)]
structure dG(h:Hp)(br:Nat)(pn:Value)(s t:Nat)(vPi:Value)(X:Bool->Sx)(F:Bool->List Nat)(vE:Value)(N:Nat)(σ:Bi):Prop where
 own: ∀q∈boL false br pn s t vPi X vE σ,Has h q.1 q.2
 ev:fj h (vE,4,σ.ev.flatMap fd)
 nd:(keys (boL false br pn s t vPi X vE σ) (boG vE σ)).Nodup
 heap: ∀i,bj h (F i) (ptrTo (X i).p) N (σ.sd i).K
 ok: ∀i,(X i).Ok (σ.sd i)
 apart: ∀i,∀c∈F i,c∉keys (boL false br pn s t vPi X vE σ) (boG vE σ)/\c∉F (!i)
def boB(br:Nat)(pn:Value)(s t:Nat)(vPi:Value)(X:Bool->Sx)(F:Bool->List Nat)(vE:Value)(σ:Bi):List Nat:=keys (boL false br pn s t vPi X vE σ) (boG vE σ)++(F false++F true)
section
variable{h h':Hp}{br:Nat}{pn:Value}{s t:Nat}{vPi:Value}{X:Bool->Sx}{F:Bool->List Nat}{vE:Value}{N:Nat}{σ:Bi}
theorem lB(i:Bool):List.Perm (boL i br pn s t vPi X vE σ) (boL false br pn s t vPi X vE σ):=by
 cases i with
 |false=>exact List.Perm.refl _
 |true=>exact List.Perm.cons _ List.perm_append_comm
theorem dG.apart'(a:dG h br pn s t vPi X F vE N σ)(i:Bool){j:Bool}{c:Nat}(hc:c∈F j):c∉keys (boL i br pn s t vPi X vE σ) (boG vE σ):=fun hm=>by
 refine(a.apart j c hc).1 ?_
 unfold keys at hm⊢
 rcases List.mem_append.1 hm with h|h
 . exact zN _ (((lB i).map _).mem_iff.1 h)
 . exact zS _ h
theorem nv{i:Bool}{c:Nat}(hc:c∈F i):c∈boB br pn s t vPi X F vE σ:=zS _ (by cases i;exact zN _ hc;exact zS _ hc)
theorem dG.mo{M:Nat->Prop}(a:dG h br pn s t vPi X F vE N σ)(g:Mo M h h')(hm: ∀b∈boB br pn s t vPi X F vE σ,¬M b):dG h' br pn s t vPi X F vE N σ:=
 ⟨fun q hq=>g.has (a.own q hq) (hm _ (zN _ (gb hq))),
  a.ev.of_get fun b hb=>g.get b (a.ev.lt g.ok0 hb) (hm b (zN _ (eC (p:=(vE,4,σ.ev.flatMap fd)) m0 hb))),a.nd,
  fun i=>(a.heap i).mo g (fun b hb=>hm b (nv hb)),a.ok,a.apart⟩
theorem dG.gr(a:dG h br pn s t vPi X F vE N σ)(g:Gr h h'):dG h' br pn s t vPi X F vE N σ:=a.mo (M:=NoM) g.fr (fun _ _ h=>h)
theorem dG.st(a:dG h br pn s t vPi X F vE N σ)(ok:h.t.Sized h.n)(i:Bool):St (· ∈boB br pn s t vPi X F vE σ) h h (boL i br pn s t vPi X vE σ) (boG vE σ):=by
 have S:St (· ∈boB br pn s t vPi X F vE σ) h h (boL false br pn s t vPi X vE σ) (boG vE σ):=
  ⟨Mo.refl ok,fun p hp=>⟨.inr (zN _ (gb hp)),a.own p hp⟩,fun p hp=>by
   simp only [boG,List.mem_singleton]at hp
   subst hp
   exact⟨a.ev,fun b hb=>.inr (zN _ (eC (p:=(vE,4,σ.ev.flatMap fd)) m0 hb))⟩,a.nd⟩
 exact S.permL (lB i)
theorem dG.of{M:Nat->Prop}{h0:Hp}(i:Bool)(S:St M h0 h (boL i br pn s t vPi X vE σ) (boG vE σ))(hh: ∀i,bj h (F i) (ptrTo (X i).p) N (σ.sd i).K)(ho: ∀i,(X i).Ok (σ.sd i))(ha: ∀j,∀c∈F j,c∉keys (boL i br pn s t vPi X vE σ) (boG vE σ)/\c∉F (!j)):dG h br pn s t vPi X F vE N σ:=by
 have T:=S.permL (lB (br:=br) (pn:=pn) (s:=s) (t:=t) (vPi:=vPi) (X:=X) (vE:=vE) (σ:=σ) i).symm
 refine⟨fun q hq=>(T.own q hq).2,(T.gown _ m0).1,T.apart,hh,ho,fun j c hc=>⟨fun hm=>(ha j c hc).1 ?_,(ha j c hc).2⟩⟩
 unfold keys at hm⊢
 rcases List.mem_append.1 hm with h|h
 . exact zN _ (((lB i).map _).mem_iff.2 h)
 . exact zS _ h
theorem dG.rows(a:dG h br pn s t vPi X F vE N σ):Row h br (eW pn s t vPi X vE σ) 1/\ ∀i,Row h (X i).b ((X i).row i) 1:=by
 refine⟨a.own (br,.row _ 1) (by simp [boL]),fun i=>?_⟩
 cases i
 . exact a.own ((X false).b,.row _ 1) (by simp [boL,Sx.L])
 . exact a.own ((X true).b,.row _ 1) (by simp [boL,Sx.L])
end
theorem xg{h0:Hp}(ok:h0.t.Sized h0.n){br:Nat}{pn:Value}{s t:Nat}{vPi:Value}{X:Bool->Sx}{F:Bool->List Nat}{vE:Value}{N:Nat}{σ:Bi}(a:dG h0 br pn s t vPi X F vE N σ)
 (hk: ∀i v k,(σ.sd i).K v=some k-> -1000000000000000000<=k/\k<=1000000000000000000) (hd:σ.dist<=FAR):
 Ret zO 90 [ptrTo br] h0 fun r h'=>Gr h0 h'/\((StopB σ/\r=.pointer none)\/ ∃i,TurnB σ i/\r=ptrTo (X i).b):=by
 have S:=Si ok
 have fr:=gO
 obtain⟨R,RX⟩:=a.rows
 obtain⟨k0,b0,p0,q0⟩:=qm ok (a.heap false)
 have l5:=R.load1 (o:=5) rfl
 have l6:=R.load1 (o:=6) rfl
 have l7:=R.load1 (o:=7) rfl
 have x0:=(RX false).load1 (o:=0) rfl
 have x1:=(RX true).load1 (o:=0) rfl
 refine ab (n:=64) (rs:=[.tmp 2]) rfl Tryz.e90 rfl rfl rfl (lbt rfl) ?_
 simp only [BS,LB,Nat.reduceLT,Nat.reduceEqDiff,Int.reduceToNat,Int.reduceLE,Int.reduceLT,zT,Tryz.FFbo290,l5,x0]
 refine au p0 ?_
 intro h1 g1
 replace S:=S.call g1
 obtain⟨k1,b1,p1,q1⟩:=qm S.ok ((a.heap true).gr g1)
 replace l5:=g1.load l5
 replace l6:=g1.load l6
 replace l7:=g1.load l7
 replace x1:=g1.load x1
 simp only [BS,LB,Nat.reduceLT,Nat.reduceEqDiff,Nat.reduceAdd,Int.reduceToNat,Int.reduceLE,Int.reduceLT,zT,Tryz.FFbo290,l6,x1]
 refine au p1 ?_
 intro h2 g2
 replace S:=S.call g2
 replace l5:=g2.load l5
 replace l6:=g2.load l6
 replace l7:=g2.load l7
 rcases q0 with⟨rfl,n0⟩|⟨rfl,v0,t0⟩
 . simp only [BS,LB,ac,Nat.reduceLT,Nat.reduceEqDiff]
   exact⟨S.gr,.inl (.inl ⟨false,n0⟩)⟩
 . rcases q1 with⟨rfl,n1⟩|⟨rfl,v1,t1⟩
   . simp only [BS,LB,ac,Nat.reduceLT,Nat.reduceEqDiff]
     exact⟨S.gr,.inl (.inl ⟨true,n1⟩)⟩
   . have y0:=hk false v0 k0 t0.1
     have y1:=hk true v1 k1 t1.1
     have wa:aq .i64 (k0+k1)=k0+k1:=by rw [wrap64]<;>omega
     have wm:aq .i64 (2*(σ.dist:Int))=2*(σ.dist:Int):=by rw [wrap64]<;>omega
     by_cases c1:2*(σ.dist:Int)<=k0+k1
     . simp only [BS,LB,ac,Nat.reduceLT,Nat.reduceEqDiff,Tryz.FFbo290,l7,wa,wm,c1]
       exact⟨S.gr,.inl (.inr ⟨v0,k0,v1,k1,t0,t1,c1⟩)⟩
     . by_cases c2:k0<=k1
       . simp only [BS,LB,ac,Nat.reduceLT,Nat.reduceEqDiff,Int.reduceToNat,Int.reduceLE,Int.reduceLT,zT,Tryz.FFbo290,l7,wa,wm,c1,c2,l5]
         exact⟨S.gr,.inr ⟨false,⟨v0,k0,v1,k1,t0,t1,by omega,(decide_eq_false (by omega)).symm⟩,rfl⟩⟩
       . simp only [BS,LB,ac,Nat.reduceLT,Nat.reduceEqDiff,Nat.reduceAdd,Int.reduceToNat,Int.reduceLE,Int.reduceLT,zT,Tryz.FFbo290,l7,wa,wm,c1,c2,l6]
         exact⟨S.gr,.inr ⟨true,⟨v0,k0,v1,k1,t0,t1,by omega,(decide_eq_true (by omega)).symm⟩,rfl⟩⟩
end Go.Ab

end
section
namespace Go.Ab
open Go.Proofs
set_option maxRecDepth 10000
def Tryz.FFbo389:=aj Z1<|aj Z2<|aj Z0<|aj Z3<|aj Z7<|aj Z9<|aj Z14<|aj Z17<|aj Z19<|aj Z27<|aj Z5<|aj Z10<|aj Z4<|aj Z15<|aj Z25<|aj Z33<|aj Z31<|aj Z34<|aj Z35<|aj Z11<|aj Z26<|aj Z42<|aj Z43<|aj Z44<|aj Z45<|aj Z32<|aj Z16<|aj Z23<|aj Z50<|aj Z51<|aj Z20<|Z24
theorem breach_ok {h0:Hp} (ok:h0.t.Sized h0.n) {br:Nat} {pn:Value} {s t:Nat} {vPi:Value} {pis:List Int} {X:Bool->Sx} {F:Bool->List Nat} {vE:Value} {N:Nat} {σ:Bi} (a:dG h0 br pn s t vPi X F vE N σ)
 (sP:aA h0 1 (encI .i64) vPi pis) (lP:pis.length=N) (nP: ∀c,av vPi c->c∉boB br pn s t vPi X F vE σ) (hN:N<=12) {i:Bool} {v lab:Nat} {p:List Nat} (hv:v<N) (hl:lab<=13*bz) (hd:σ.dist<=FAR)
 (hb: ∀j v l,(σ.sd j).L v=some l->l<=13*bz) (hop: ∀l,(σ.sd i).L v=some l->v∉(σ.sd i).O->(σ.sd i).K v=some (2*l+qB (fun v=>pis.getD v 0) i v)) (hno:(σ.sd i).L v=none->(σ.sd i).K v=none):
 Ret zO 89 [ptrTo br,ptrTo (X i).b,.int .i64 (v:Nat),.int .i64 (byI p),.int .i64 (lab:Nat)] h0 fun _ h'=>Mo (· ∈boB br pn s t vPi X F vE σ) h0 h'/\ ∃X' F',dG h' br pn s t vPi X' F' vE N (aU (fun v=>pis.getD v 0) i σ v lab p)/\(∀j,(X' j).b=(X j).b/\(X' j).vA=(X j).vA/\(X' j).vH=(X j).vH)/\ ∀c∈boB br pn s t vPi X' F' vE (aU (fun v=>pis.getD v 0) i σ v lab p),c∈boB br pn s t vPi X F vE σ\/h0.n<=c:=by
 have fr:=gO
 have wm:=kD
 have S:=a.st ok i
 have same:aU (fun v=>pis.getD v 0) i σ v lab p=σ-> ∀h,Gr h0 h->Mo (· ∈boB br pn s t vPi X F vE σ) h0 h/\ ∃X' F',dG h br pn s t vPi X' F' vE N (aU (fun v=>pis.getD v 0) i σ v lab p)/\(∀j,(X' j).b=(X j).b/\(X' j).vA=(X j).vA/\(X' j).vH=(X j).vH)/\ ∀c∈boB br pn s t vPi X' F' vE (aU (fun v=>pis.getD v 0) i σ v lab p),c∈boB br pn s t vPi X F vE σ\/h0.n<=c:=
  fun e h g=>⟨g.fr,X,F,by rw [e];exact a.gr g,fun _=>⟨rfl,rfl,rfl⟩,fun c hc=>.inl (by rw [e]at hc;exact hc)⟩
 have Ho:=a.ok i
 have Hq:=a.ok (!i)
 have H:=a.heap i
 have Hx:=a.heap (!i)
 have hk:=fun j c (hc:c∈F j)=>a.apart' i hc
 have hFB: ∀j,∀c∈F j,c∈boB br pn s t vPi X F vE σ\/h0.n<=c:=fun j c hc=>.inl (nv hc)
 generalize hBB:boB br pn s t vPi X F vE σ=BB at S same hFB
 rcases hX:X i with⟨xb,xp,xl,xa,xc,vA,vH,el,cl,ea,ca,ec,cc⟩
 rcases hY:X (!i)with⟨yb,yp,yl,ya,yc,wA,wH,fl,dl,fa,da,fc,dc⟩
 rw [hX]at Ho H
 rw [hY]at Hq Hx
 obtain⟨gl,ML,hgl⟩:=Ho.ml
 obtain⟨ga,MA,hga⟩:=Ho.ma
 obtain⟨gc,MC,hgc⟩:=Ho.mc
 simp only []at ML MA MC
 simp only [LC,boL,boG,eW,Sx.L,Sx.row,hX,hY]at S hk
 have hkn: ∀j,∀c∈F j,c≠br/\c≠xb/\c≠xl/\c≠xa:=fun j c hc=>by
  have h:=hk j c hc
  simp only [keys,Xd,List.mem_append,zR,not_or]at h
  exact⟨h.1.1,h.1.2.1,h.1.2.2.1,h.1.2.2.2.1⟩
 have l4:h0.load br 4 1=some [vPi]:=S.ld (b:=br) (o:=4) m0 rfl
 have hkl:=fun c hc=>S.key_lt (b:=c) hc
 have hi2: ∀j:Bool,j≠i->j= !i:=fun j h=>by cases i<;>cases j<;>first|rfl|exact absurd rfl h
 have hni:(!i)≠i:=by cases i<;>decide
 have fin : ∀(h':Hp) (F6:List Nat) (el2 ea2:List (Value×Value×Nat)) (cl2 ca2:Nat) (τ:Bi),τ=aU (fun v=>pis.getD v 0) i σ v lab p->τ.sd=cC σ.sd i (dh (fun v=>pis.getD v 0) (σ.sd i) i v lab p)->τ.ev=σ.ev->
  St (· ∈BB) h0 h' [(br,.row [pn,.int .i64 (s:Nat),.int .i64 (t:Nat),.slice none 0 0,vPi,ptrTo (X false).b,ptrTo (X true).b,.int .i64 (τ.dist:Nat),.slice none 0 0,vE,.int .i64 (τ.meet:Nat)] 1),(xb,.row [ptrTo xp,.int .i64 (eu i:Nat),.int .i64 (iN i),vA,vH,.map (some xl),.map (some xa),.map (some xc)] 1),(xl,.map el2 cl2),(xa,.map ea2 ca2),(xc,.map ec cc),(yb,.row [ptrTo yp,.int .i64 (eu (!i):Nat),.int .i64 (iN (!i)),wA,wH,.map (some yl),.map (some ya),.map (some yc)] 1),(yl,.map fl dl),(ya,.map fa da),(yc,.map fc dc)] [(vE,4,σ.ev.flatMap fd)]->
  bj h' F6 (ptrTo xp) N (bZ (σ.sd i).K v (some (2*lab+qB (fun v=>pis.getD v 0) i v)))->bj h' (F (!i)) (ptrTo yp) N (σ.sd (!i)).K->(∀c∈F6,c∈F i\/h0.n<=c)->cM el2 cl2 (c8 gl v (some (.int .i64 (lab:Nat))))->cM ea2 ca2 (c8 ga v (some (.int .i64 (byI p))))->
  Mo (· ∈BB) h0 h'/\ ∃X' F',dG h' br pn s t vPi X' F' vE N (aU (fun v=>pis.getD v 0) i σ v lab p)/\(∀j,(X' j).b=(X j).b/\(X' j).vA=(X j).vA/\(X' j).vH=(X j).vH)/\ ∀c∈boB br pn s t vPi X' F' vE (aU (fun v=>pis.getD v 0) i σ v lab p),c∈BB\/h0.n<=c:=by
  intro h' F6 el2 ea2 cl2 ca2 τ hτ e1 e2 S H6 Hx6 hF6 ML2 MA2
  rw [<-hτ]
  let X':Bool->Sx:=fun j=>if j=i then⟨xb,xp,xl,xa,xc,vA,vH,el2,cl2,ea2,ca2,ec,cc⟩else X j
  let F':Bool->List Nat:=fun j=>if j=i then F6 else F j
  have xi:X' i=⟨xb,xp,xl,xa,xc,vA,vH,el2,cl2,ea2,ca2,ec,cc⟩:=if_pos rfl
  have xo:X' (!i)=X (!i):=if_neg hni
  have fi:F' i=F6:=if_pos rfl
  have fo:F' (!i)=F (!i):=if_neg hni
  have hbb: ∀j,(X' j).b=(X j).b/\(X' j).vA=(X j).vA/\(X' j).vH=(X j).vH:=fun j=>by
   by_cases hj:j=i
   . subst hj;rw [xi,hX];exact⟨rfl,rfl,rfl⟩
   . rw [hi2 j hj,xo];exact⟨rfl,rfl,rfl⟩
  have eL:boL i br pn s t vPi X' vE τ=[(br,.row [pn,.int .i64 (s:Nat),.int .i64 (t:Nat),.slice none 0 0,vPi,ptrTo (X false).b,ptrTo (X true).b,.int .i64 (τ.dist:Nat),.slice none 0 0,vE,.int .i64 (τ.meet:Nat)] 1),(xb,.row [ptrTo xp,.int .i64 (eu i:Nat),.int .i64 (iN i),vA,vH,.map (some xl),.map (some xa),.map (some xc)] 1),(xl,.map el2 cl2),(xa,.map ea2 ca2),(xc,.map ec cc),(yb,.row [ptrTo yp,.int .i64 (eu (!i):Nat),.int .i64 (iN (!i)),wA,wH,.map (some yl),.map (some ya),.map (some yc)] 1),(yl,.map fl dl),(ya,.map fa da),(yc,.map fc dc)]:=by
   simp only [boL,eW,Sx.L,Sx.row,xi,xo,hY,(hbb false).1,(hbb true).1,zY,Xc]
  have eG:boG vE τ=[(vE,4,σ.ev.flatMap fd)]:=by unfold boG;rw [e2]
  have keyE: ∀c,c∈keys (boL i br pn s t vPi X' vE τ) (boG vE τ)->c<h0.n:=fun c hc=>by
   rw [eL,eG]at hc
   exact hkl c hc
  have keyF: ∀c,c∈F i\/c∈F (!i)->c∉keys (boL i br pn s t vPi X' vE τ) (boG vE τ):=fun c hc hm=>by
   rw [eL,eG]at hm
   exact hc.elim (fun h=>hk i c h hm) (fun h=>hk (!i) c h hm)
  rw [<-eL,<-eG]at S
  have ap:=fun j c (hc:c∈F j)=>(a.apart j c hc).2
  have lF:=fun j=>(a.heap j).lt ok
  refine⟨S.fr,X',F',dG.of i S (fun j=>?_) (fun j=>?_) (fun j c hc=>?_),hbb,fun c hc=>?_⟩
  . by_cases hj:j=i
    . subst hj
      rw [fi,xi,e1,dg]
      exact H6
    . rw [hi2 j hj,fo,xo,e1,j6,hY]
      exact Hx6
  . by_cases hj:j=i
    . subst hj
      rw [xi,e1,dg]
      refine⟨⟨_,ML2,fun u=>?_⟩,⟨_,MA2,fun u hu=>?_⟩,⟨gc,MC,hgc⟩⟩
      . simp only [c8,dh]
        by_cases hu:u=v
        . subst hu;simp
        . rw [if_neg (by omega),if_neg hu];exact hgl u
      . simp only [c8,dh,updP]at hu⊢
        by_cases hu':u=v
        . subst hu';simp
        . rw [if_neg (by omega),if_neg hu']
          rw [if_neg hu']at hu
          exact hga u hu
    . rw [hi2 j hj,xo,e1,j6]
      exact a.ok _
  . by_cases hj:j=i
    . subst hj
      rw [fi]at hc
      rw [fo]
      rcases hF6 c hc with h|h
      . exact⟨keyF c (.inl h),ap _ c h⟩
      . exact⟨fun hm=>by have:=keyE c hm;omega,fun hm=>by have:=lF _ c hm;omega⟩
    . rw [hi2 j hj]at hc⊢
      rw [fo]at hc
      rw [XD,fi]
      refine⟨keyF c (.inr hc),fun hm=>?_⟩
      rcases hF6 c hm with h|h
      . exact ap _ c h hc
      . have:=lF _ c hc;omega
  . have hB: ∀j,∀c∈F' j,c∈BB\/h0.n<=c:=fun j c hc=>by
     by_cases hj:j=i
     . subst hj
       rw [fi]at hc
       exact(hF6 c hc).elim (fun h=>hFB _ c h) .inr
     . rw [hi2 j hj,fo]at hc
       exact hFB _ c hc
    rcases List.mem_append.1 hc with hc|hc
    . refine(S.key_own ?_).symm
      unfold keys at hc⊢
      rcases List.mem_append.1 hc with h|h
      . exact zN _ (((lB i).map _).mem_iff.2 h)
      . exact zS _ h
    . rcases List.mem_append.1 hc with hc|hc
      . exact hB _ c hc
      . exact hB _ c hc
 refine ab (n:=132) (rs:=[]) rfl Tryz.e89 rfl rfl rfl (lbt rfl) ?_
 simp only [BS,LB,Nat.reduceLT,Nat.reduceEqDiff]
 refine au (bpi_ok S.ok l4 sP (by omega)) ?_
 intro h1 g1
 replace S:=S.call g1
 replace H:=H.gr g1
 replace Hx:=Hx.gr g1
 have lkl:=ks (x:=(v:Int)) XB Xk (z:=.int .i64 0) (by kernel_rfl) (show h1.get xl=some (.map el cl)from(S.own _ m2).2) ML
 have lkc:=jD (x:=(v:Int)) XI Xk (z:=.int .i64 0) (by kernel_rfl) (show h1.get xc=some (.map ec cc)from(S.own _ m4).2) MC
 rw [hgl]at lkl
 rw [hgc]at lkc
 generalize hp:pis.getD v 0=pv
 by_cases hop':OpB (fun v=>pis.getD v 0) v
 . have ho : decide (-(FAR:Int)<pv/\pv<FAR)=true:=decide_eq_true (by rw [<-hp];exact hop')
   by_cases hO:v∈(σ.sd i).O
   . rw [if_pos hO]at lkc
     simp only [BS,LB,Nat.reduceLT,Nat.reduceEqDiff,Int.reduceLT,Tryz.FFbo389,ho,lkl,lkc,zV,S.ld (b:=xb) (o:=5) m1 rfl,S.ld (b:=xb) (o:=7) m1 rfl]
     exact same (by unfold aU;rw [if_pos (.inl hO)]) _ g1
   . rw [if_neg hO]at lkc
     have wk2:aq .i64 (2*(lab:Int))=2*(lab:Int):=by rw [wrap64]<;>omega
     have hpv: -(FAR:Int)<pv/\pv<FAR:=of_decide_eq_true ho
     have wsg:aq .i64 (iN i*pv)=iN i*pv:=by rw [wrap64]<;>cases i<;>simp only [iN,if_true,if_false,XJ]<;>omega
     have hqb:iN i*pv=qB (fun v=>pis.getD v 0) i v:=by
      unfold qB
      simp only [hp]
      cases i<;>simp [iN]
     have wsum:aq .i64 (2*(lab:Int)+iN i*pv)=2*(lab:Int)+iN i*pv:=by rw [wrap64]<;>cases i<;>simp only [iN,if_true,if_false,XJ]<;>omega
     cases hL:(σ.sd i).L v with
     | none =>
       rw [hL]at lkl
       simp only [Xr,zZ,Xu]at lkl
       have hrb:aU (fun v=>pis.getD v 0) i σ v lab p=mH ((σ.sd (!i)).L v) ⟨cC σ.sd i (dh (fun v=>pis.getD v 0) (σ.sd i) i v lab p),σ.ev,σ.dist,σ.meet⟩ v lab:=by
        unfold aU
        rw [if_neg (by rw [hL];rintro(h|h|h);exact hO h;exact h hop';cases h)]
       simp only [BS,LB,Nat.reduceLT,Nat.reduceEqDiff,Int.reduceLT,Tryz.FFbo389,ho,lkl,lkc,zZ,S.ld (b:=xb) (o:=5) m1 rfl,S.ld (b:=xb) (o:=7) m1 rfl]
       refine aD (aM rfl) (q:=0) (ps:=[]) (by kernel_rfl) ?_
       simp only [BS,LB,cls,Nat.reduceLT,Nat.reduceEqDiff,Nat.reduceAdd,Nat.reducePow,Nat.reduceDiv,Nat.reduceMod,Nat.reduceLeDiff,Tryz.FFbo389,S.ld (b:=xb) (o:=5) m1 rfl,S.ld (b:=xb) (o:=6) m1 rfl]
       obtain⟨h2,n1,e1,mo1,el1,cl1,_,S1,st1⟩:=S.mentI (i:=2) (x:=(v:Int)) rfl XB Xk (z:=.int .i64 0) (by kernel_rfl) ML
       refine jK (P:=fun h' v'=>h'=h2/\v'=.tuple #[(gl v).getD (.int .i64 0),.int .i64 (XV n1)]) ⟨h2,_,e1,rfl,rfl⟩ ?_
       rintro h' v' ⟨rfl,rfl⟩
       clear S;have S:=S1;clear S1
       simp only [LC]at S
       obtain⟨el2,est1,ML2⟩:=st1 (.int .i64 (lab:Nat))
       simp only [BS,LB,cls,Nat.reduceLT,Nat.reduceEqDiff,Nat.reduceAdd,Nat.reducePow,Nat.reduceDiv,Nat.reduceMod,Nat.reduceLeDiff,Xp]
       refine dK (S.mstoreI (i:=2) rfl est1) ?_
       clear S;rintro h3 ⟨mo2,S⟩
       simp only [LC]at S
       simp only [BS,LB,cls,Nat.reduceLT,Nat.reduceEqDiff,Nat.reduceAdd,Nat.reducePow,Nat.reduceDiv,Nat.reduceMod,Nat.reduceLeDiff]
       obtain⟨h4,n2,e2,mo3,ea1,ca1,_,S1,st2⟩:=S.mentI (i:=3) (x:=(v:Int)) rfl XI Xk (z:=.int .i64 0) (by kernel_rfl) MA
       refine jK (P:=fun h' v'=>h'=h4/\v'=.tuple #[(ga v).getD (.int .i64 0),.int .i64 (XV n2)]) ⟨h4,_,e2,rfl,rfl⟩ ?_
       rintro h' v' ⟨rfl,rfl⟩
       clear S;have S:=S1;clear S1
       simp only [LC]at S
       obtain⟨ea2,est2,MA2⟩:=st2 (.int .i64 (byI p))
       simp only [BS,LB,cls,Nat.reduceLT,Nat.reduceEqDiff,Nat.reduceAdd,Nat.reducePow,Nat.reduceDiv,Nat.reduceMod,Nat.reduceLeDiff,Xp]
       refine dK (S.mstoreI (i:=3) rfl est2) ?_
       clear S;rintro h5 ⟨mo4,S⟩
       simp only [LC]at S
       simp only [BS,LB,Nat.reduceLT,Nat.reduceEqDiff,Nat.reduceAdd,Tryz.FFbo389,wk2,wsg,wsum,S.ld (b:=xb) (o:=2) m1 rfl,S.ld (b:=xb) (o:=0) m1 rfl]
       have H5:=(((H.mo mo1 (fun c hc=>(hkn i c hc).2.2.1)).mo mo2 (fun c hc=>(hkn i c hc).2.2.1)).mo mo3 (fun c hc=>(hkn i c hc).2.2.2)).mo mo4 (fun c hc=>(hkn i c hc).2.2.2)
       have Hx5:=(((Hx.mo mo1 (fun c hc=>(hkn _ c hc).2.2.1)).mo mo2 (fun c hc=>(hkn _ c hc).2.2.1)).mo mo3 (fun c hc=>(hkn _ c hc).2.2.2)).mo mo4 (fun c hc=>(hkn _ c hc).2.2.2)
       refine step_ret (oG S.ok H5 hv (by omega) (hno hL)) ?_
       rintro r h6 ⟨f6,F6,H6,hF6'⟩
       have k5:=S.fr.n
       have hF6: ∀c∈F6,c∈F i\/h0.n<=c:=fun c hc=>(hF6' c hc).imp (fun h=>h) (fun h=>by omega)
       have Hx6:=Hx5.mo f6 (fun c hc hm=>(a.apart (!i) c hc).2 (by rw [XD];exact hm))
       replace S:=S.stepF f6 (fun c hc=>⟨hFB i c hc,hk i c hc⟩)
       simp only [BS]
       refine aD (aM rfl) (q:=0) (ps:=[]) (by kernel_rfl) ?_
       have wo:aq .i64 (1-((eu i:Nat):Int))=((eu (!i):Nat):Int):=by cases i<;>rfl
       have io:eR (.int .i64 ((eu (!i):Nat):Int)) 2=some (eu (!i)):=eX (by cases i<;>decide)
       have ly:h6.load br (5+eu (!i)) 1=some [ptrTo yb]:=S.ld (b:=br) m0 (by
        cases i
        . show some (ptrTo (X true).b)=_;rw [show X true=_ from hY]
        . show some (ptrTo (X false).b)=_;rw [show X false=_ from hY])
       obtain⟨gq,MQ,hgq⟩:=Hq.ml
       have lkq:=ks (x:=(v:Int)) XB Xk (z:=.int .i64 0) (by kernel_rfl) (show h6.get yl=some (.map fl dl)from(S.own _ m6).2) MQ
       rw [hgq]at lkq
       cases hM:(σ.sd (!i)).L v with
       | none=>
         rw [hM]at lkq
         simp only [Xr,zZ,Xu]at lkq
         simp only [BS,LB,cls,Nat.reduceLT,Nat.reduceEqDiff,Nat.reduceAdd,Nat.reducePow,Nat.reduceDiv,Nat.reduceMod,Nat.reduceLeDiff,Tryz.FFbo389,wo,io,ly,lkq,S.ld (b:=xb) (o:=1) m1 rfl,S.ld (b:=yb) (o:=5) m5 rfl]
         refine fin _ F6 _ _ _ _ ⟨cC σ.sd i (dh (fun v=>pis.getD v 0) (σ.sd i) i v lab p),σ.ev,σ.dist,σ.meet⟩ ?_ rfl rfl S (by rw [<-hqb];exact H6) Hx6 hF6 ML2 MA2
         rw [hrb,hM];rfl
       | some m=>
         have hm:=hb _ v m hM
         have wlm:aq .i64 ((lab:Int)+(m:Int))=((lab+m:Nat):Int):=by rw [wrap64]<;>omega
         rw [hM]at lkq
         simp only [Xb,zV,XK]at lkq
         by_cases hlt:lab+m<σ.dist
         . have hlt':((lab+m:Nat):Int)<(σ.dist:Int):=by omega
           simp only [BS,LB,cls,Nat.reduceLT,Nat.reduceEqDiff,Nat.reduceAdd,Nat.reducePow,Nat.reduceDiv,Nat.reduceMod,Nat.reduceLeDiff,Tryz.FFbo389,wo,io,ly,lkq,wlm,hlt',S.ld (b:=xb) (o:=1) m1 rfl,S.ld (b:=yb) (o:=5) m5 rfl,S.ld (b:=br) (o:=7) m0 rfl]
           refine aC (aI S (i:=0) rfl Tryz.s2 bG (Xe (lbt rfl)) ono) ?_
           clear S;rintro h7 ⟨S,mo7⟩
           simp only [LC]at S
           simp only [BS,LB,Nat.reduceLT,Nat.reduceEqDiff,Tryz.FFbo389]
           refine aC (aI S (i:=0) rfl XT bG (Xe (lbt rfl)) ono) ?_
           clear S;rintro h8 ⟨S,mo8⟩
           simp only [LC]at S
           simp only [BS]
           have hnb: ∀c∈F6,¬c=br:=fun c hc=>by
            rcases hF6 c hc with h|h
            . exact(hkn i c h).1
            . have:=hkl br (zN _ (Xl));intro e;omega
           refine fin _ F6 _ _ _ _ ⟨cC σ.sd i (dh (fun v=>pis.getD v 0) (σ.sd i) i v lab p),σ.ev,lab+m,v⟩ ?_ rfl rfl S (by rw [<-hqb];exact(H6.mo mo7 hnb).mo mo8 hnb) ((Hx6.mo mo7 (fun c hc=>(hkn _ c hc).1)).mo mo8 (fun c hc=>(hkn _ c hc).1)) hF6 ML2 MA2
           rw [hrb,hM];exact(if_pos hlt).symm
         . have hlt': ¬((lab+m:Nat):Int)<(σ.dist:Int):=by omega
           simp only [BS,LB,cls,Nat.reduceLT,Nat.reduceEqDiff,Nat.reduceAdd,Nat.reducePow,Nat.reduceDiv,Nat.reduceMod,Nat.reduceLeDiff,Tryz.FFbo389,wo,io,ly,lkq,wlm,hlt',S.ld (b:=xb) (o:=1) m1 rfl,S.ld (b:=yb) (o:=5) m5 rfl,S.ld (b:=br) (o:=7) m0 rfl]
           refine fin _ F6 _ _ _ _ ⟨cC σ.sd i (dh (fun v=>pis.getD v 0) (σ.sd i) i v lab p),σ.ev,σ.dist,σ.meet⟩ ?_ rfl rfl S (by rw [<-hqb];exact H6) Hx6 hF6 ML2 MA2
           rw [hrb,hM];exact(if_neg hlt).symm
     | some l =>
       rw [hL]at lkl
       simp only [Xb,zV,XK]at lkl
       by_cases hle:l<=lab
       . have hle':(l:Int)<=(lab:Int):=by omega
         simp only [BS,LB,Nat.reduceLT,Nat.reduceEqDiff,Int.reduceLT,Tryz.FFbo389,ho,lkl,lkc,zZ,hle',S.ld (b:=xb) (o:=5) m1 rfl,S.ld (b:=xb) (o:=7) m1 rfl]
         exact same (by unfold aU;rw [if_pos (.inr (.inr (by rw [hL];exact decide_eq_true hle)))]) _ g1
       . have hle': ¬(l:Int)<=(lab:Int):=by omega
         have hrb:aU (fun v=>pis.getD v 0) i σ v lab p=mH ((σ.sd (!i)).L v) ⟨cC σ.sd i (dh (fun v=>pis.getD v 0) (σ.sd i) i v lab p),σ.ev,σ.dist,σ.meet⟩ v lab:=by
          unfold aU
          rw [if_neg (by rw [hL];rintro(h|h|h);exact hO h;exact h hop';exact hle (of_decide_eq_true h))]
         simp only [BS,LB,Nat.reduceLT,Nat.reduceEqDiff,Int.reduceLT,Tryz.FFbo389,ho,lkl,lkc,zZ,hle',S.ld (b:=xb) (o:=5) m1 rfl,S.ld (b:=xb) (o:=7) m1 rfl]
         refine aD (aM rfl) (q:=0) (ps:=[]) (by kernel_rfl) ?_
         simp only [BS,LB,cls,Nat.reduceLT,Nat.reduceEqDiff,Nat.reduceAdd,Nat.reducePow,Nat.reduceDiv,Nat.reduceMod,Nat.reduceLeDiff,Tryz.FFbo389,S.ld (b:=xb) (o:=5) m1 rfl,S.ld (b:=xb) (o:=6) m1 rfl]
         obtain⟨h2,n1,e1,mo1,el1,cl1,_,S1,st1⟩:=S.mentI (i:=2) (x:=(v:Int)) rfl XB Xk (z:=.int .i64 0) (by kernel_rfl) ML
         refine jK (P:=fun h' v'=>h'=h2/\v'=.tuple #[(gl v).getD (.int .i64 0),.int .i64 (XV n1)]) ⟨h2,_,e1,rfl,rfl⟩ ?_
         rintro h' v' ⟨rfl,rfl⟩
         clear S;have S:=S1;clear S1
         simp only [LC]at S
         obtain⟨el2,est1,ML2⟩:=st1 (.int .i64 (lab:Nat))
         simp only [BS,LB,cls,Nat.reduceLT,Nat.reduceEqDiff,Nat.reduceAdd,Nat.reducePow,Nat.reduceDiv,Nat.reduceMod,Nat.reduceLeDiff,Xp]
         refine dK (S.mstoreI (i:=2) rfl est1) ?_
         clear S;rintro h3 ⟨mo2,S⟩
         simp only [LC]at S
         simp only [BS,LB,cls,Nat.reduceLT,Nat.reduceEqDiff,Nat.reduceAdd,Nat.reducePow,Nat.reduceDiv,Nat.reduceMod,Nat.reduceLeDiff]
         obtain⟨h4,n2,e2,mo3,ea1,ca1,_,S1,st2⟩:=S.mentI (i:=3) (x:=(v:Int)) rfl XI Xk (z:=.int .i64 0) (by kernel_rfl) MA
         refine jK (P:=fun h' v'=>h'=h4/\v'=.tuple #[(ga v).getD (.int .i64 0),.int .i64 (XV n2)]) ⟨h4,_,e2,rfl,rfl⟩ ?_
         rintro h' v' ⟨rfl,rfl⟩
         clear S;have S:=S1;clear S1
         simp only [LC]at S
         obtain⟨ea2,est2,MA2⟩:=st2 (.int .i64 (byI p))
         simp only [BS,LB,cls,Nat.reduceLT,Nat.reduceEqDiff,Nat.reduceAdd,Nat.reducePow,Nat.reduceDiv,Nat.reduceMod,Nat.reduceLeDiff,Xp]
         refine dK (S.mstoreI (i:=3) rfl est2) ?_
         clear S;rintro h5 ⟨mo4,S⟩
         simp only [LC]at S
         simp only [BS,LB,Nat.reduceLT,Nat.reduceEqDiff,Nat.reduceAdd,Tryz.FFbo389,wk2,wsg,wsum,S.ld (b:=xb) (o:=2) m1 rfl,S.ld (b:=xb) (o:=0) m1 rfl]
         have H5:=(((H.mo mo1 (fun c hc=>(hkn i c hc).2.2.1)).mo mo2 (fun c hc=>(hkn i c hc).2.2.1)).mo mo3 (fun c hc=>(hkn i c hc).2.2.2)).mo mo4 (fun c hc=>(hkn i c hc).2.2.2)
         have Hx5:=(((Hx.mo mo1 (fun c hc=>(hkn _ c hc).2.2.1)).mo mo2 (fun c hc=>(hkn _ c hc).2.2.1)).mo mo3 (fun c hc=>(hkn _ c hc).2.2.2)).mo mo4 (fun c hc=>(hkn _ c hc).2.2.2)
         refine step_ret (pZ S.ok H5 (by omega) (hop l hL hO) (k:=2*(lab:Int)+iN i*pv) (by rw [hqb];omega)) ?_
         rintro r h6 ⟨f6,H6⟩
         have hF6: ∀c∈F i,c∈F i\/h0.n<=c:=fun c hc=>.inl hc
         have Hx6:=Hx5.mo f6 (fun c hc hm=>(a.apart (!i) c hc).2 (by rw [XD];exact hm))
         replace S:=S.stepF f6 (fun c hc=>⟨hFB i c hc,hk i c hc⟩)
         simp only [BS]
         refine aD (aM rfl) (q:=0) (ps:=[]) (by kernel_rfl) ?_
         have wo:aq .i64 (1-((eu i:Nat):Int))=((eu (!i):Nat):Int):=by cases i<;>rfl
         have io:eR (.int .i64 ((eu (!i):Nat):Int)) 2=some (eu (!i)):=eX (by cases i<;>decide)
         have ly:h6.load br (5+eu (!i)) 1=some [ptrTo yb]:=S.ld (b:=br) m0 (by
          cases i
          . show some (ptrTo (X true).b)=_;rw [show X true=_ from hY]
          . show some (ptrTo (X false).b)=_;rw [show X false=_ from hY])
         obtain⟨gq,MQ,hgq⟩:=Hq.ml
         have lkq:=ks (x:=(v:Int)) XB Xk (z:=.int .i64 0) (by kernel_rfl) (show h6.get yl=some (.map fl dl)from(S.own _ m6).2) MQ
         rw [hgq]at lkq
         cases hM:(σ.sd (!i)).L v with
         | none=>
           rw [hM]at lkq
           simp only [Xr,zZ,Xu]at lkq
           simp only [BS,LB,cls,Nat.reduceLT,Nat.reduceEqDiff,Nat.reduceAdd,Nat.reducePow,Nat.reduceDiv,Nat.reduceMod,Nat.reduceLeDiff,Tryz.FFbo389,wo,io,ly,lkq,S.ld (b:=xb) (o:=1) m1 rfl,S.ld (b:=yb) (o:=5) m5 rfl]
           refine fin _ (F i) _ _ _ _ ⟨cC σ.sd i (dh (fun v=>pis.getD v 0) (σ.sd i) i v lab p),σ.ev,σ.dist,σ.meet⟩ ?_ rfl rfl S (by rw [<-hqb];exact H6) Hx6 hF6 ML2 MA2
           rw [hrb,hM];rfl
         | some m=>
           have hm:=hb _ v m hM
           have wlm:aq .i64 ((lab:Int)+(m:Int))=((lab+m:Nat):Int):=by rw [wrap64]<;>omega
           rw [hM]at lkq
           simp only [Xb,zV,XK]at lkq
           by_cases hlt:lab+m<σ.dist
           . have hlt':((lab+m:Nat):Int)<(σ.dist:Int):=by omega
             simp only [BS,LB,cls,Nat.reduceLT,Nat.reduceEqDiff,Nat.reduceAdd,Nat.reducePow,Nat.reduceDiv,Nat.reduceMod,Nat.reduceLeDiff,Tryz.FFbo389,wo,io,ly,lkq,wlm,hlt',S.ld (b:=xb) (o:=1) m1 rfl,S.ld (b:=yb) (o:=5) m5 rfl,S.ld (b:=br) (o:=7) m0 rfl]
             refine aC (aI S (i:=0) rfl Tryz.s2 bG (Xe (lbt rfl)) ono) ?_
             clear S;rintro h7 ⟨S,mo7⟩
             simp only [LC]at S
             simp only [BS,LB,Nat.reduceLT,Nat.reduceEqDiff,Tryz.FFbo389]
             refine aC (aI S (i:=0) rfl XT bG (Xe (lbt rfl)) ono) ?_
             clear S;rintro h8 ⟨S,mo8⟩
             simp only [LC]at S
             simp only [BS]
             have hnb: ∀c∈F i,¬c=br:=fun c hc=>by
              rcases hF6 c hc with h|h
              . exact(hkn i c h).1
              . have:=hkl br (zN _ (Xl));intro e;omega
             refine fin _ (F i) _ _ _ _ ⟨cC σ.sd i (dh (fun v=>pis.getD v 0) (σ.sd i) i v lab p),σ.ev,lab+m,v⟩ ?_ rfl rfl S (by rw [<-hqb];exact(H6.mo mo7 hnb).mo mo8 hnb) ((Hx6.mo mo7 (fun c hc=>(hkn _ c hc).1)).mo mo8 (fun c hc=>(hkn _ c hc).1)) hF6 ML2 MA2
             rw [hrb,hM];exact(if_pos hlt).symm
           . have hlt': ¬((lab+m:Nat):Int)<(σ.dist:Int):=by omega
             simp only [BS,LB,cls,Nat.reduceLT,Nat.reduceEqDiff,Nat.reduceAdd,Nat.reducePow,Nat.reduceDiv,Nat.reduceMod,Nat.reduceLeDiff,Tryz.FFbo389,wo,io,ly,lkq,wlm,hlt',S.ld (b:=xb) (o:=1) m1 rfl,S.ld (b:=yb) (o:=5) m5 rfl,S.ld (b:=br) (o:=7) m0 rfl]
             refine fin _ (F i) _ _ _ _ ⟨cC σ.sd i (dh (fun v=>pis.getD v 0) (σ.sd i) i v lab p),σ.ev,σ.dist,σ.meet⟩ ?_ rfl rfl S (by rw [<-hqb];exact H6) Hx6 hF6 ML2 MA2
             rw [hrb,hM];exact(if_neg hlt).symm
 . have ho:decide (-(FAR:Int)<pv/\pv<FAR)=false:=decide_eq_false (by rw [<-hp];exact hop')
   simp only [BS,LB,Nat.reduceLT,Nat.reduceEqDiff,Tryz.FFbo389,ho,lkl,S.ld (b:=xb) (o:=5) m1 rfl]
   exact same (by unfold aU;rw [if_pos (.inr (.inl hop'))]) _ g1
def Tryz.FFbo484:=aj Z1<|aj Z2<|aj Z0<|aj Z3<|aj Z7<|aj Z9<|aj Z14<|aj Z5<|aj Z6<|aj Z10<|aj Z4<|aj Z25<|aj Z33<|aj Z34<|aj Z35<|aj Z12<|aj Z11<|aj Z26<|aj Z42<|aj Z43<|aj Z44<|aj Z45<|aj Z32<|aj Z16<|aj Z23<|aj Z50<|aj Z51<|aj Z20<|Z24
theorem bj.lo{h:Hp}{F:List Nat}{p:Value}{N x:Nat}{K:Nat->Option Int}(a:bj h F p N K):bj {h with lo:=x} F p N K:=by
 obtain⟨bh,bm,l,e,h1,h2,h3,h4⟩:=a.ex
 exact⟨⟨bh,bm,l,e,h1,h2,h3,h4.imp (fun h=>h) (fun⟨bl,cap,e,k⟩=>⟨bl,cap,e,⟨k.row,k.ex,k.ne⟩⟩)⟩⟩
theorem us{h0:Hp}(ok:h0.t.Sized h0.n){br bp nb v:Nat}{γ:Gra}(hn:bN h0 nb (ptrTo bp) γ){cells:List Value}(R:Row h0 br cells 1)(hc:cells[0]? =some (ptrTo bp))(hlen:cells.length=11){i:Bool}{vA vH:Value}(fA:Fl vA)(fH:Fl vH):
 Ret zO 84 [ptrTo br,.int .i64 (eu i:Nat),.int .i64 (v:Nat),.int .i64 (iN i),vA,vH] h0 fun _ h'=>Mo (· =br) h0 h'/\ ∃(x:Sx) (F:List Nat),Row h' br (cells.set (5+eu i) (ptrTo x.b)) 1/\(∀q∈x.L i,Has h' q.1 q.2)/\x.vA=vA/\x.vH=vH/\x.Ok cR/\bj h' F (ptrTo x.p) γ.nodes (fun _=>none)/\(∀c∈keys (x.L i) []++F,h0.n<=c)/\(keys (x.L i) []).Nodup/\ ∀c∈F,c∉keys (x.L i) []:=by
 have S:=St.init1 ok (o:=.row cells 1) R
 have l0:=R.load1 (o:=0) hc
 refine ab (n:=32) (rs:=[]) rfl Tryz.e84 rfl rfl rfl (lbt rfl) ?_
 simp only [BS]
 refine aD (aM rfl) (q:=94400) (ps:=[]) (by kernel_rfl) ?_
 simp only [BS,LB,cls,Nat.reduceLT,Nat.reduceEqDiff,Nat.reduceAdd,Nat.reducePow,Nat.reduceDiv,Nat.reduceMod,Nat.reduceLeDiff,Tryz.FFbo484,l0]
 refine tF (dP (h0:={h0 with lo:=h0.n}) S.ok (hn.keep ok (fun _ _=>rfl))) ?_
 intro h1 g1
 replace S:=S.call g1
 simp only [BS,LB,cls,Nat.reduceLT,Nat.reduceEqDiff,Nat.reduceAdd,Nat.reducePow,Nat.reduceDiv,Nat.reduceMod,Nat.reduceLeDiff]
 refine dq_ret (P:=fun v h'=> ∃F,bj h' F v γ.nodes (fun _=>none)/\ ∀b∈F,h1.n<=b) ((sa (h0:={h1 with lo:=h1.n}) S.ok (N:=γ.nodes)).mono fun v h' h=>⟨h.1,h.2.imp fun F h=>⟨h.1.lo,h.2⟩⟩) ?_
 rintro hp h2 g2 ⟨F,H,hF⟩
 replace S:=S.call g2
 have S2:=S
 replace S:=S.base
 simp only [LC,keys,Xd,Xn,zW]at S
 have fp:Fl hp:=by obtain⟨_,_,_,rfl,_⟩:=H.ex;exact dX
 simp only [BS,LB,cls,Nat.reduceLT,Nat.reduceEqDiff,Nat.reduceAdd,Nat.reducePow,Nat.reduceDiv,Nat.reduceMod,Nat.reduceLeDiff]
 refine dC mS S ?_;clear S;intro h ml S n_ml e_ml
 simp only [BS,LB,cls,Nat.reduceAdd,Nat.reducePow,Nat.reduceDiv,Nat.reduceMod,Nat.reduceLeDiff]
 refine dC mS S ?_;clear S;intro h ma S n_ma e_ma
 simp only [BS,LB,cls,Nat.reduceAdd,Nat.reducePow,Nat.reduceDiv,Nat.reduceMod,Nat.reduceLeDiff]
 refine dC mS S ?_;clear S;intro h mc S n_mc e_mc
 simp only [BS,LB,cls,Nat.reduceLT,Nat.reduceEqDiff,Nat.reduceAdd,Nat.reducePow,Nat.reduceDiv,Nat.reduceMod,Nat.reduceLeDiff,Tryz.FFbo484,fp,fA,fH]
 refine dC (aZ (by intro x e;cases e)) S ?_;clear S;intro h xb S n_xb e_xb;simp only [an]at S
 have io:eR (.int .i64 ((eu i:Nat):Int)) 2=some (eu i):=eX (by cases i<;>decide)
 simp only [BS,LB,cls,Nat.reduceLT,Nat.reduceEqDiff,Nat.reduceAdd,Nat.reducePow,Nat.reduceDiv,Nat.reduceMod,Nat.reduceLeDiff,Tryz.FFbo484,io]
 refine dK (aI S (i:=4) rfl Tryz.s164 dX (by rw [hlen];cases i<;>decide) ono) ?_
 clear S;rintro h9 ⟨S,mo⟩
 simp only [LC]at S
 simp only [BS,LB,Nat.reduceAdd]
 have k2:=g2.n
 have k1:=g1.n
 obtain⟨ph,ep⟩: ∃b,hp=ptrTo b:=by obtain⟨b,_,_,e,_⟩:=H.ex;exact⟨b,e⟩
 subst ep
 have lF:=H.lt g2.ok
 have zb:=R.lt ok
 have H9:bj h9 F (ptrTo ph) γ.nodes (fun _=>none):=H.mo S.fr (fun c hc hm=>by
  have:=hF c hc
  have:c=br:=by simpa using hm
  omega)
 have ap:=S.apart
 simp only [keys,Xd,Xn,zW,zQ,XR,zR,zP,or_false,not_or]at ap
 have T:St (· =br) h0 h9 _ _:=S2.rebase S
 refine⟨T.fr,⟨xb,ph,ml,ma,mc,vA,vH,[],0,[],0,[],0⟩,F,T.row m4,?_,rfl,rfl,?_,H9,?_,?_,?_⟩
 . intro q hq
   simp only [Sx.L,Sx.row,zR,zP,or_false]at hq
   rcases hq with rfl|rfl|rfl|rfl
   . exact(T.own _ m0).2
   . exact(T.own _ m3).2
   . exact(T.own _ m2).2
   . exact(T.own _ m1).2
 . exact⟨⟨_,lD,fun v=>rfl⟩,⟨_,lD,fun v h=>by cases h⟩,⟨_,lD,fun v=>(if_neg (by simp [cR])).symm⟩⟩
 . intro c hc
   rcases List.mem_append.1 hc with hc|hc
   . simp only [Sx.L,keys,Xd,Xn,zW,zQ,zR,zP,or_false]at hc
     rcases hc with rfl|rfl|rfl|rfl<;>omega
   . have:=hF c hc;omega
 . simp only [Sx.L,keys,Xd,Xn,zW,zQ,XR,zR,zP,or_false,not_or,List.nodup_nil,and_true,not_false_eq_true]
   obtain⟨⟨a1,a2,a3,a4⟩,⟨b1,b2,b3⟩,⟨c1,c2⟩,_⟩:=ap
   exact⟨⟨a3,a2,a1⟩,⟨fun e=>c1 e.symm,fun e=>b2 e.symm⟩,fun e=>b1 e.symm⟩
 . intro c hc hm
   have:=lF c hc
   simp only [Sx.L,keys,Xd,Xn,zW,zQ,zR,zP,or_false]at hm
   rcases hm with rfl|rfl|rfl|rfl<;>omega
def Tryz.FFbo586:=aj Z1<|aj Z2<|aj Z0<|Z8
def Tryz.FFbo588:=aj Z1<|aj Z2<|aj Z0<|Z8
inductive NxtL(nx:Nat->Option (Nat×Nat)):Nat->List Nat->Prop where
 |nil {v:Nat}:nx v=none->NxtL nx v []
 |cons {v x w:Nat} {l:List Nat}:nx v=some (x,w)->NxtL nx w l->NxtL nx v (x::l)
def nxV:Option (Nat×Nat)->Value
 |none=>.tuple #[.int .i64 0,.int .i64 0,.bool false]
 |some (x,w)=>.tuple #[.int .i64 (x:Nat),.int .i64 (w:Nat),.bool true]
theorem chain_ok{h0:Hp}(ok:h0.t.Sized h0.n){g:FuncId}{post:Array Value}{nx:Nat->Option (Nat×Nat)}{D:Nat->Prop}(hg: ∀h,Gr h0 h-> ∀v,D v->Ret zO g ([.int .i64 (v:Nat)]++post.toList) h fun r h'=>Gr h h'/\r=nxV (nx v))(hD: ∀v x w,D v->nx v=some (x,w)->D w){v:Nat}{l:List Nat}(hv:D v)(p:NxtL nx v l)(hl:l.length<=1000):
 Ret zO 164 [.int .i64 (v:Nat),.func (.func g) #[] post] h0 fun r h'=>Gr h0 h'/\fj h' (r,1,l.flatMap cJ)/\ ∀c,av r c->h0.n<=c:=by
 have S:=Si ok
 refine ab (n:=28) (rs:=[.tmp 4]) rfl Tryz.e164 rfl rfl rfl (lbt rfl) ?_
 simp only [BS,LB,Nat.reduceLT,Nat.reduceEqDiff]
 refine step_ret (hg _ S.gr v hv) ?_
 rintro r h1 ⟨g1,rfl⟩
 replace S:=S.call g1
 have key: ∀(o:Option (Nat×Nat)),∃x w b,nxV o=.tuple #[.int .i64 x,.int .i64 w,.bool b]:=fun o=>by
  rcases o with _|⟨x,w⟩
  . exact⟨_,_,_,rfl⟩
  . exact⟨_,_,_,rfl⟩
 obtain⟨x0,w0,b0,e0⟩:=key (nx v)
 simp only [BS,LB,Nat.reduceLT,Nat.reduceEqDiff,e0]
 replace S:=S.nilG (k:=1)
 refine bA (fun(rest:List Nat) ρ h=> ∃done v x w b vR,l=done++rest/\D v/\NxtL nx v rest/\nxV (nx v)=.tuple #[.int .i64 x,.int .i64 w,.bool b]/\St NoM h0 h [] [(vR,1,dA done)]/\ρ 1=.func (.func g) #[] post/\ρ 4=vR/\ρ 5=.int .i64 x/\ρ 6=.int .i64 w/\ρ 7=.bool b) (fun rest=>rest.length) ?_ l _ _ ?_
 . clear S p hv e0
   intro rest ih ρ h ⟨done,v,x,w,b,vR,el,hv,p,e,S,r1,r4,r5,r6,r7⟩
   cases p with
   | nil hn=>
     rw [hn]at e
     simp only [nxV,Value.tuple.injEq,Array.mk.injEq,List.cons.injEq,Value.bool.injEq,Value.int.injEq]at e
     obtain⟨⟨_,rfl⟩,⟨_,rfl⟩,rfl,_⟩:=e
     simp only [BS,LB,ac,Nat.reduceLT,Nat.reduceEqDiff,r4,r7]
     rw [zQ]at el
     subst el
     refine⟨S.gr,(S.gown _ m0).1,fun c hc=>?_⟩
     exact((S.gown _ m0).2 c (pP (S.gown _ m0).1 hc)).elim (fun h=>h) (fun h=>h.elim)
   | @cons _ y u rest' hn hp=>
     rw [hn]at e
     simp only [nxV,Value.tuple.injEq,Array.mk.injEq,List.cons.injEq,Value.bool.injEq,Value.int.injEq]at e
     obtain⟨⟨_,rfl⟩,⟨_,rfl⟩,rfl,_⟩:=e
     have hlen:done.length+(rest'.length+1)<=1000:=by rw [el]at hl;simpa using hl
     have hu:=hD _ _ _ hv hn
     simp only [BS,LB,Nat.reduceLT,Nat.reduceEqDiff,r4,r5,r7]
     refine ag (cm (by exact Xx) (by exact XG) (by decide) (by rfl)) S ?_;clear S;intro h bt S n_bt;simp only [LC,aY,bM,an,Nat.reduceMul,Nat.reduceAdd,Xs,Xt,Xm,Xw]at S
     simp only [BS,LB,Nat.reduceLT,Nat.reduceEqDiff]
     have src:aO h 1 (.slice (some ⟨bt,0,none⟩) 1 1)=some (1,dA [y]):=by simp only [aO];rw [S.lds (b:=bt) (o:=0) (n:=1*1) m0 (lbt rfl)];rfl
     replace S:=S.drop1
     refine fL (S.grow (j:=0) (m:=1) (new:=dA [y]) rfl Xx XG (by decide) Tryz.n33 src rfl (by decide) rfl (by rw [j7,j7];simp;omega)) ?_
     clear S src;rintro h vR' S
     simp only [LC,<-xk]at S
     simp only [BS,LB,Nat.reduceLT,Nat.reduceEqDiff,r1,r6]
     refine step_ret (hg _ S.gr u hu) ?_
     rintro r h2 ⟨g2,rfl⟩
     replace S:=S.call g2
     obtain⟨x',w',b',e'⟩:=key (nx u)
     simp only [BS,LB,Nat.reduceLT,Nat.reduceEqDiff,e']
     exact ih rest' _ _ (by simp) ⟨done++[y],u,x',w',b',vR',by rw [el];simp,hu,hp,e',S,by simp [aa,r1],by simp [aa],by simp [aa],by simp [aa],by simp [aa]⟩
 . exact⟨[],v,x0,w0,b0,.slice none 0 0,rfl,hv,p,e0,S,by simp [aa,cD],by simp [aa],by simp [aa],by simp [aa],by simp [aa]⟩
theorem head1_ok{h0:Hp}(ok:h0.t.Sized h0.n){a:Arc}:bK zO 86 [.agg ⟨cy a⟩] h0 (.int .i64 (a.t:Nat)):=by
 have S:=Si ok
 refine ab (n:=5) (rs:=[.tmp 2]) rfl Tryz.e86 rfl rfl rfl (lbt rfl) ?_
 simp only [BS,Nat.reduceLT,cy]
 refine ag (aZ (by intro x e;cases e)) S ?_;clear S;intro h b1 S n_b1;simp only [an]at S
 simp only [BS,LB,ac,Nat.reduceLT,Nat.reduceEqDiff,Tryz.FFbo586,S.ld (b:=b1) (o:=1) m0 rfl]
 exact S.gr
theorem head2_ok{h0:Hp}(ok:h0.t.Sized h0.n){a:Arc}:bK zO 88 [.agg ⟨cy a⟩] h0 (.int .i64 (a.s:Nat)):=by
 have S:=Si ok
 refine ab (n:=5) (rs:=[.tmp 2]) rfl Tryz.e88 rfl rfl rfl (lbt rfl) ?_
 simp only [BS,Nat.reduceLT,cy]
 refine ag (aZ (by intro x e;cases e)) S ?_;clear S;intro h b1 S n_b1;simp only [an]at S
 simp only [BS,LB,ac,Nat.reduceLT,Nat.reduceEqDiff,Tryz.FFbo588,S.ld (b:=b1) (o:=0) m0 rfl]
 exact S.gr
def nxB(A:List Arc)(i:Bool)(P:Nat->List Nat)(v:Nat):Option (Nat×Nat):=match P v with
 | []=>none
 |a::_=>some (a,fsB i (A.getD a default))
def Tryz.FFbo6165:=aj Z1<|aj Z2<|aj Z0<|aj Z3<|aj Z7<|aj Z9<|aj Z5<|aj Z6<|aj Z10<|aj Z4<|aj Z25<|aj Z33<|aj Z8<|aj Z34<|aj Z35<|aj Z12<|aj Z11<|aj Z26<|aj Z42<|aj Z43<|aj Z44<|aj Z45<|aj Z32<|aj Z16<|aj Z23<|aj Z50<|aj Z51<|Z24
open Tryz in
def Tryz.FFbo692:=aj Z1<|aj Z2<|aj Z0<|aj Z3<|aj Z5<|aj Z10<|aj Z4<|aj Z25<|aj Z33<|aj Z34<|aj Z35<|aj Z11<|aj Z26<|aj Z42<|aj Z43<|aj Z44<|aj Z45<|aj Z32<|aj Z16<|aj Z23<|aj Z50<|aj Z51<|aj a251<|aj s251<|aj z251<|n251
def lO(i:Bool):FuncId:=if i then 88 else 86
theorem xD{h0:Hp}(ok:h0.t.Sized h0.n){i:Bool}{a:Arc}:bK zO (lO i) [.agg ⟨cy a⟩] h0 (.int .i64 (ftB i a:Nat)):=by
 cases i
 . exact head1_ok ok
 . exact head2_ok ok
structure BkAt(h:Hp)(br:Nat)(pn:Value)(m:Nat)(i:Bool)(x:Sx)(s:Sd):Prop where
 l0:h.load br 0 1=some [pn]
 l10:h.load br 10 1=some [.int .i64 (m:Nat)]
 row:Row h x.b (x.row i) 1
 map:h.get x.ma=some (.map x.ea x.ca)
 ok:x.Ok s
theorem BkAt.gr{h h':Hp}{br:Nat}{pn:Value}{m:Nat}{i:Bool}{x:Sx}{s:Sd}(a:BkAt h br pn m i x s)(g:Gr h h'):BkAt h' br pn m i x s:=⟨g.load a.l0,g.load a.l10,a.row.gr g,g.at a.map,a.ok⟩
theorem dG.bk{h:Hp}{br:Nat}{pn:Value}{s t:Nat}{vPi:Value}{X:Bool->Sx}{F:Bool->List Nat}{vE:Value}{N:Nat}{σ:Bi}(a:dG h br pn s t vPi X F vE N σ)(i:Bool):BkAt h br pn σ.meet i (X i) (σ.sd i):=by
 obtain⟨R,RX⟩:=a.rows
 refine⟨R.load1 (o:=0) rfl,R.load1 (o:=10) rfl,RX i,?_,a.ok i⟩
 have ho:Has h (X i).ma (.map (X i).ea (X i).ca):=by
  cases i
  . exact a.own ((X false).ma,.map _ _) (by simp [boL,Sx.L])
  . exact a.own ((X true).ma,.map _ _) (by simp [boL,Sx.L])
 exact ho
theorem back1_ok{h0:Hp}(ok:h0.t.Sized h0.n){br bp nb m:Nat}{x:Sx}{sd:Sd}{γ:Gra}(hn:bN h0 nb (ptrTo bp) γ)(hγ:Good γ){i:Bool}(a:BkAt h0 br (ptrTo bp) m i x sd)(hH:x.vH=.func (.func (lO i)) #[] #[])
 {b2 b3 v:Nat} (l2:h0.load b2 0 1=some [ptrTo br]) (l3:h0.load b3 0 1=some [ptrTo x.b]) (hL:(sd.L v).isSome=true) (hP: ∀e∈sd.P v,e<γ.arcs.length):
 Ret zO 165 ([.int .i64 (v:Nat)]++[ptrTo b3,ptrTo b2]) h0 fun r h'=>Gr h0 h'/\r=nxV (nxB γ.arcs i sd.P v):=by
 have S:=Si ok
 have n2:=hγ.n2
 obtain⟨ga,MA,hga⟩:=a.ok.ma
 have lr0:=a.l0
 have x6:=a.row.load1 (o:=6) rfl
 have x4:=a.row.load1 (o:=4) rfl
 rw [hH]at x4
 have hg:=a.map
 have lk:=jD (x:=(v:Int)) XI Xk (z:=.int .i64 0) (by kernel_rfl) hg MA
 rw [hga v hL,zV]at lk
 refine ab (n:=40) (rs:=[.tmp 4,.tmp 5,.tmp 6]) rfl Tryz.e165 rfl rfl rfl (lbt rfl) ?_
 cases hp:sd.P v with
 | nil=>
   rw [hp]at lk
   replace lk:dq _ h0 _ _ _ _=some (.int .i64 (-1)):=lk
   simp only [BS,LB,ac,Nat.reduceLT,Nat.reduceEqDiff,Int.reduceLT,Tryz.FFbo6165,l3,x6,lk]
   exact⟨S.gr,by unfold nxB;rw [hp];rfl⟩
 | cons e l=>
   rw [hp]at lk
   replace lk:dq _ h0 _ _ _ _=some (.int .i64 (e:Nat)):=lk
   have he:=hP e (by rw [hp];simp)
   have c0: ¬((e:Int)<0):=by omega
   simp only [BS,LB,Nat.reduceLT,Nat.reduceEqDiff,Tryz.FFbo6165,l3,x6,lk,c0,l2,lr0]
   refine step_ret (qh S.ok hn he) ?_
   rintro r h1 ⟨g1,rfl⟩
   replace S:=S.call g1
   obtain⟨a1,a2,a3⟩:=hγ.arcs _ (Xh he)
   have ags:γ.arcs.getD e default=γ.arcs[e]:=by simp [zM,he]
   generalize γ.arcs[e]=y at a1 a2 a3 ags
   simp only [BS,LB,Nat.reduceLT,Nat.reduceEqDiff,Tryz.FFbo6165,cy]
   refine ag aF S ?_;clear S;intro h b8 S n_b8
   simp only [BS,LB,Nat.reduceLT,Nat.reduceEqDiff]
   refine aC (S.store (i:=0) rfl ?_ ?_ rfl rfl ?_ ono) ?_
   . exact(by exact Tryz.s87)
   . exact(by intro x e;cases e)
   . exact lbt rfl
   clear S;rintro h ⟨S,mo⟩;clear mo;simp only [LC,an,lay,Xz,XA,Nat.reduceAdd]at S
   have l3':=S.old l3 (fun h=>h)
   have x4':=S.old x4 (fun h=>h)
   have z3:=bI ok l3
   have z4:=bI ok x4
   have w1:aq .i64 ((y.s:Int)+(y.t:Int))=(y.s:Int)+(y.t:Int):=by rw [wrap64]<;>omega
   have w2:aq .i64 ((y.s:Int)+(y.t:Int)-(ftB i y:Int))=((fsB i y:Nat):Int):=by
    cases i<;>simp only [ftB,fsB,if_true,if_false,XJ]<;>rw [wrap64]<;>omega
   simp only [BS,LB,Nat.reduceLT,Nat.reduceEqDiff]
   refine aD (aM rfl) (q:=0) (ps:=[(4,11),(2,11)]) (by kernel_rfl) ?_
   simp only [BS,LB,cls,Nat.reduceLT,Nat.reduceEqDiff,Nat.reduceAdd,Nat.reducePow,Nat.reduceDiv,Nat.reduceMod,Nat.reduceLeDiff,Tryz.FFbo6165,l3',x4',w1,S.ld (b:=b8) (o:=0) m0 rfl,S.ld (b:=b8) (o:=1) m0 rfl,S.lds (b:=b8) (o:=0) (n:=3) m0 (lbt rfl)]
   have k8:=(S.row (b:=b8) m0).lt S.ok
   have n0:=S.gr.n
   refine df (xD (a:=y) S.ok) ?_
   intro h9 g9
   have e1:=aw g9 (show b3<_ by omega)
   have e2:=aw g9 (show x.b<_ by omega)
   have e3:=aw g9 k8
   replace S:=S.call g9
   simp only [BS,LB,cls,ac,Nat.reduceLT,Nat.reduceEqDiff,Nat.reduceAdd,Nat.reducePow,Nat.reduceDiv,Nat.reduceMod,Nat.reduceLeDiff,w2]
   refine⟨by simp only [bH,bO,bg,bV,bD,ne_eq,not_false_eq_true,bU,cu,bJ,bF,cB,dt,aS,Nat.reduceLT,Nat.reduceEqDiff,reduceIte,Xj,ae,aB e1,aG e1,aB e2,aG e2,aB e3,aG e3],?_⟩
   refine⟨S.gr,?_⟩
   unfold nxB
   rw [hp]
   simp only [ags]
   rfl
theorem back_ok{h0:Hp}(ok:h0.t.Sized h0.n){br bp nb m:Nat}{x:Sx}{sd:Sd}{γ:Gra}(hn:bN h0 nb (ptrTo bp) γ)(hγ:Good γ){i:Bool}(a:BkAt h0 br (ptrTo bp) m i x sd)(hH:x.vH=.func (.func (lO i)) #[] #[])
 {D:Nat->Prop} (hDs: ∀v,D v->(sd.L v).isSome=true/\ ∀e∈sd.P v,e<γ.arcs.length) (hDc: ∀v y w,D v->nxB γ.arcs i sd.P v=some (y,w)->D w) (hm:D m) (p:NxtL (nxB γ.arcs i sd.P) m (sd.P m)) (hl:(sd.P m).length<=1000):
 Ret zO 92 [ptrTo br,ptrTo x.b] h0 fun r h'=>Gr h0 h'/\fj h' (r,1,(sd.P m).flatMap cJ)/\ ∀c,av r c->h0.n<=c:=by
 have S:=Si ok
 have l10:=a.l10
 refine ab (n:=11) (rs:=[.tmp 4]) rfl Tryz.e92 rfl rfl rfl (lbt rfl) ?_
 simp only [BS,Nat.reduceLT]
 refine ag (cI (by exact dX)) S ?_;clear S;intro h b2 S n_b2
 simp only [BS,Nat.reduceLT,Nat.reduceEqDiff,if_false]
 refine ag (cI (by exact dX)) S ?_;clear S;intro h b3 S n_b3
 have l10':=S.old l10 (fun h=>h)
 simp only [BS,LB,Nat.reduceLT,Nat.reduceEqDiff,Tryz.FFbo692,l10',S.ld (b:=b2) (o:=0) m1 rfl]
 have n0:=S.gr.n
 have e2:=S.ld (b:=b2) (o:=0) m1 rfl
 have e3:=S.ld (b:=b3) (o:=0) m0 rfl
 refine step_ret (chain_ok S.ok (g:=165) (post:=#[ptrTo b3,ptrTo b2]) (nx:=nxB γ.arcs i sd.P) (D:=D) (fun h' g v hv=>back1_ok g.ok (hn.gr (S.gr.trans g)) hγ (a.gr (S.gr.trans g)) hH (g.load e2) (g.load e3) (hDs v hv).1 (hDs v hv).2) hDc hm p hl) ?_
 rintro r h4 ⟨g4,sl,nl⟩
 simp only [BS,LB,ac,Nat.reduceLT,Nat.reduceEqDiff]
 exact⟨S.gr.trans g4,sl,fun c hc=>XE n0 (nl c hc)⟩
end Go.Ab
end
section
namespace Go.Ab
section
variable{A:List Arc}{N:Nat}{al:Nat->Bool}{pi:Nat->Int}{σ:Bi}{rt:Bool->Nat}
structure KeB(b:Bool)(σ τ:Bi):Prop where
 O:(τ.sd b).O=(σ.sd b).O
 L: ∀v∈(σ.sd b).O,(τ.sd b).L v=(σ.sd b).L v/\(τ.sd b).P v=(σ.sd b).P v
 ot:τ.sd (!b)=σ.sd (!b)
theorem KeB.refl{b:Bool}:KeB b σ σ:=⟨rfl,fun _ _=>⟨rfl,rfl⟩,rfl⟩
theorem KeB.trans{b:Bool}{τ υ:Bi}(h:KeB b σ τ)(g:KeB b τ υ):KeB b σ υ:=
 ⟨g.O.trans h.O,fun v hv=>⟨(g.L v (h.O▸hv)).1.trans (h.L v hv).1,(g.L v (h.O▸hv)).2.trans (h.L v hv).2⟩,g.ot.trans h.ot⟩
theorem iD{b:Bool}{v lab:Nat}{p:List Nat}:KeB b σ (aU pi b σ v lab p):=by
 unfold aU
 split
 . exact .refl
 . rename_i hc
   simp only [not_or,Decidable.not_not]at hc
   refine⟨?_,fun u hu=>?_,?_⟩
   . rw [kU.1]
     show(cC σ.sd b _ b).O=_
     rw [dg];rfl
   . rw [kU.1]
     show(cC σ.sd b _ b).L u=_/\(cC σ.sd b _ b).P u=_
     rw [dg]
     have e:u≠v:=fun e=>hc.1 (e▸hu)
     exact⟨if_neg e,if_neg e⟩
   . rw [kU.1]
     exact j6
theorem evB_I{e:Ev2}(h:BiI A N rt al pi σ):BiI A N rt al pi (evB σ e):=⟨h.sv,h.dm,h.le⟩
def mG(σ:Bi)(b:Bool)(v m:Nat):Prop:=v∈(σ.sd b).O/\(σ.sd b).L v=some m/\m+bz<=(σ.sd b).O.length*bz/\((σ.sd b).P v).length+1<=(σ.sd b).O.length
theorem mG.ke{b:Bool}{τ:Bi}{v m:Nat}(r:mG σ b v m)(k:KeB b σ τ):mG τ b v m:=by
 obtain⟨h1,h2,h3,h4⟩:=r
 exact⟨by rw [k.O];exact h1,by rw [(k.L v h1).1];exact h2,by rw [k.O];exact h3,by rw [k.O,(k.L v h1).2];exact h4⟩
theorem rH{b:Bool}{v m a:Nat}(hN:N<=12)(hA: ∀a∈A,a.s<N/\a.t<N/\a.w<=bz)(h:BiI A N rt al pi σ)(r:mG σ b v m)(ha:a<A.length)(hv:fsB b (A.getD a default)=v):
 BiI A N rt al pi (co A al pi b v σ a)/\KeB b σ (co A al pi b v σ a):=by
 unfold co
 split
 . rename_i hal
   obtain⟨h1,h2,h3,h4⟩:=r
   have hm:A.getD a default∈A:=by rw [zM,XP ha];exact Xh ha
   obtain⟨w1,w2,w3⟩:=hA _ hm
   have hlab:je σ b v=m:=by unfold je;rw [h2];rfl
   have hft:ftB b (A.getD a default)<N:=by unfold ftB;split<;>assumption
   have ke:=iD (pi:=pi) (σ:=evB σ ⟨1,b,a,0⟩) (b:=b) (v:=ftB b (A.getD a default)) (lab:=je σ b v+(A.getD a default).w) (p:=a::(σ.sd b).P v)
   refine⟨(evB_I h).reach hN hft ?_ ?_ (.inr ⟨a,m,ha,hal,rfl,?_,?_,?_,?_⟩),⟨ke.O,ke.L,ke.ot⟩⟩
   . show je σ b v+_<=(σ.sd b).O.length*bz
     omega
   . show((σ.sd b).P v).length+1<=(σ.sd b).O.length
     exact h4
   . rw [hv];exact h1
   . rw [hv];rfl
   . rw [hv];exact h2
   . rw [hlab]
 . exact⟨h,.refl⟩
theorem wI{b:Bool}{v m:Nat}(hN:N<=12)(hA: ∀a∈A,a.s<N/\a.t<N/\a.w<=bz): ∀(l:List Nat) {σ:Bi},BiI A N rt al pi σ->mG σ b v m->(∀a∈l,a<A.length/\fsB b (A.getD a default)=v)->
 BiI A N rt al pi (l.foldl (co A al pi b v) σ)/\KeB b σ (l.foldl (co A al pi b v) σ)
 | [],_,h,_,_=>⟨h,.refl⟩
 | a::l,σ,h,r,hl=>by
   obtain⟨h1,h2⟩:=rH hN hA h r (hl a Xl).1 (hl a Xl).2
   obtain⟨h3,h4⟩:=wI hN hA l h1 (r.ke h2) (fun x hx=>hl x (XU _ hx))
   exact⟨h3,h2.trans h4⟩
theorem pG{b:Bool}{v:Nat}{k:Int}(h:BiI A N rt al pi σ)(hk:(σ.sd b).K v=some k):BiI A N rt al pi (aV σ b v)/\ ∃m,mG (aV σ b v) b v m/\(σ.sd b).L v=some m/\k=2*(m:Int)+qB pi b v/\v∉(σ.sd b).O:=by
 have hb:=h.sv b
 obtain⟨hv,m,hm,hk'⟩:=hb.op v k hk
 obtain⟨l1,l2,l3,l4,l5⟩:=hb.lab v m hm
 have eL: ∀i u,((aV σ b v).sd i).L u=(σ.sd i).L u:=fun i u=>by
  show(cC σ.sd b _ i).L u=_
  by_cases e:i=b
  . subst e;rw [dg]
  . rw [tO e]
 refine⟨⟨fun i=>?_,?_,fun i u x y hx hy=>?_⟩,m,⟨?_,by rw [eL];exact hm,?_,?_⟩,hm,hk',hv⟩
 . show SvB A N (rt i) al pi i (cC σ.sd b _ i)
   by_cases e:i=b
   . subst e
     rw [dg]
     have len:((σ.sd i).O++[v]).length*bz=(σ.sd i).O.length*bz+bz:=by rw [Xv,XC,Nat.succ_mul]
     refine⟨?_,fun u hu=>?_,fun u j hj=>?_,fun u l hl=>?_,fun u l hl=>?_⟩
     . rw [List.nodup_append]
       exact⟨hb.nd,by simp,fun x hx y hy e=>by simp at hy;subst hy;subst e;exact hv hx⟩
     . rcases List.mem_append.1 hu with hu|hu
       . exact hb.lt u hu
       . rw [List.mem_singleton.1 hu];exact⟨l1,by show(σ.sd i).L v≠none;rw [hm];nofun⟩
     . by_cases e:u=v
       . subst e;simp [bZ]at hj
       . have hj:(σ.sd i).K u=some j:=by simpa [bZ,e]using hj
         obtain⟨a1,a2⟩:=hb.op u j hj
         exact⟨fun hm=>(List.mem_append.1 hm).elim a1 (fun h=>e (List.mem_singleton.1 h)),a2⟩
     . obtain⟨a1,a2,a3,a4,a5⟩:=hb.lab u l hl
       refine⟨a1,a2,by show l<=((σ.sd i).O++[v]).length*bz;omega,by show((σ.sd i).P u).length<=((σ.sd i).O++[v]).length;rw [Xv];omega,?_⟩
       by_cases e:u=v
       . exact .inl (zS _ (List.mem_singleton.2 e))
       . exact a5.imp (fun h=>zN _ h) (fun h=>by simpa [bZ,e]using h)
     . rcases hb.path u l hl with hp|⟨a,j,a1,a2,a3,a4,a5⟩
       . exact .inl hp
       . exact .inr ⟨a,j,a1,a2,a3,zN _ a4,a5⟩
   . rw [tO e];exact h.sv i
 . rcases h.dm with⟨d1,d2⟩|d
   . exact .inl ⟨d1,fun i u x hx=>by rw [eL]at hx⊢;exact d2 i u x hx⟩
   . exact .inr fun i=>by
      obtain⟨x,y,h1,h2,h3⟩:=d i
      exact⟨x,y,by rw [eL];exact h1,by rw [eL];exact h2,h3⟩
 . rw [eL]at hx hy;exact h.le i u x y hx hy
 . show v∈(cC σ.sd b _ b).O
   rw [dg]
   exact zS _ (List.mem_singleton.2 rfl)
 . show m+bz<=(cC σ.sd b _ b).O.length*bz
   rw [dg]
   show m+bz<=((σ.sd b).O++[v]).length*bz
   rw [Xv,XC,Nat.succ_mul];omega
 . show((cC σ.sd b _ b).P v).length+1<=(cC σ.sd b _ b).O.length
   rw [dg]
   show((σ.sd b).P v).length+1<=((σ.sd b).O++[v]).length
   rw [Xv,XC];omega
theorem nI{b:Bool}{a v:Nat}:a∈outs A (fsB b) A.length v↔a<A.length/\fsB b (A.getD a default)=v:=ki
theorem qC{b:Bool}{v:Nat}{k:Int}(hN:N<=12)(hA: ∀a∈A,a.s<N/\a.t<N/\a.w<=bz)(h:BiI A N rt al pi σ)(hk:(σ.sd b).K v=some k):
 BiI A N rt al pi (fG A al pi b v (aV σ b v))/\KeB b (aV σ b v) (fG A al pi b v (aV σ b v)):=by
 obtain⟨h1,m,r,_⟩:=pG h hk
 exact wI hN hA _ h1 r (fun a ha=>nI.1 ha)

def InB(A:List Arc)(al:Nat->Bool)(pi:Nat->Int)(a:Nat):Prop:=al a=true/\OpB pi (A.getD a default).s/\OpB pi (A.getD a default).t
instance (a:Nat):Decidable (InB A al pi a):=by unfold InB;infer_instance
def hB(A:List Arc)(al:Nat->Bool)(pi:Nat->Int)(b:Bool):List Arc:=((Xo A.length).filter fun a=>decide (InB A al pi a)).map fun a=>⟨fsB b (A.getD a default),ftB b (A.getD a default),(A.getD a default).w⟩
theorem nw{b:Bool}{a:Arc}:a∈hB A al pi b↔ ∃i,i<A.length/\InB A al pi i/\(⟨fsB b (A.getD i default),ftB b (A.getD i default),(A.getD i default).w⟩:Arc)=a:=by
 unfold hB
 simp only [List.mem_map,List.mem_filter,List.mem_range,decide_eq_true_eq]
 constructor
 . rintro⟨i,⟨h1,h2⟩,h3⟩;exact⟨i,h1,h2,h3⟩
 . rintro⟨i,h1,h2,h3⟩;exact⟨i,⟨h1,h2⟩,h3⟩
def mP(A:List Arc)(al:Nat->Bool)(pi:Nat->Int):Prop:= ∀i,i<A.length->InB A al pi i->pi (A.getD i default).s<=2*(A.getD i default).w+pi (A.getD i default).t
theorem mP.q(h:mP A al pi){i:Nat}(hi:i<A.length)(ha:InB A al pi i)(b:Bool):qB pi b (fsB b (A.getD i default))<=2*(A.getD i default).w+qB pi b (ftB b (A.getD i default)):=by
 have:=h i hi ha
 cases b
 . exact this
 . show-pi (A.getD i default).t<=2*((A.getD i default).w:Int)+ -pi (A.getD i default).s
   omega
structure FeB(A:List Arc)(r:Nat)(al:Nat->Bool)(pi:Nat->Int)(b:Bool)(x:Sd)(ex:Nat->Prop):Prop where
 opt: ∀v∈x.O,∀l w,x.L v=some l->Wk (hB A al pi b) r v w->l<=w
 fr: ∀a,a<A.length->InB A al pi a->fsB b (A.getD a default)∈x.O-> ¬ex a-> ∃l m,x.L (fsB b (A.getD a default))=some m/\x.L (ftB b (A.getD a default))=some l/\l<=m+(A.getD a default).w
 st:x.L r=some 0
theorem SvB.wk{r:Nat}{b:Bool}{x:Sd}(h:SvB A N r al pi b x): ∀(n:Nat) {v l:Nat},(x.P v).length<=n->x.L v=some l->Wk (hB A al pi b) r v l:=by
 intro n
 induction n with
 | zero=>
   intro v l hp hl
   rcases h.path v l hl with⟨rfl,_,rfl⟩|⟨a,m,_,_,_,_,h5,_⟩
   . exact .nil
   . rw [h5]at hp;simp at hp
 | succ n ih=>
   intro v l hp hl
   rcases h.path v l hl with⟨rfl,_,rfl⟩|⟨a,m,h1,h2,h3,h4,h5,h6,h7⟩
   . exact .nil
   . rw [h5]at hp
     have hw:=ih (v:=fsB b (A.getD a default)) (l:=m) (by rw [XQ]at hp;omega) h6
     have o1:=(h.lab _ _ hl).2.1
     have o2:=(h.lab _ _ h6).2.1
     have hin:InB A al pi a:=by
      refine⟨h2,?_,?_⟩<;>cases b<;>first|exact o2|(rw [<-h3]at o1;exact o1)
     exact hw.snoc' (nw.2 ⟨a,h1,hin,rfl⟩) rfl h3 h7
theorem FeB.front{r:Nat}{b:Bool}{x:Sd}(f:FeB A r al pi b x (fun _=>False))(h:SvB A N r al pi b x)(hF:mP A al pi){v w:Nat}(k:Wk (hB A al pi b) r v w):
 (v∈x.O/\ ∃l,x.L v=some l/\l<=w)\/ ∃y j,x.K y=some j/\j<=2*(w:Int)+qB pi b v:=by
 induction k with
 | nil =>
   rcases(h.lab r 0 f.st).2.2.2.2 with h1|h1
   . exact .inl ⟨h1,0,f.st,Xa _⟩
   . cases hk:x.K r with
     |none=>exact absurd hk h1
     | some j=>
       obtain⟨_,l,hl,hj⟩:=h.op r j hk
       rw [f.st]at hl;cases hl
       exact .inr ⟨r,j,hk,by omega⟩
 | @snoc w a ha hw ih=>
   obtain⟨i,hi,hin,rfl⟩:=nw.1 ha
   have fe:=hF.q hi hin b
   rcases ih with⟨ho,l0,hl0,hle⟩|⟨y,j,h1,h2⟩
   . obtain⟨l,m,hm,hl,hlm⟩:=f.fr i hi hin ho (fun h=>h)
     have e:m=l0:=by rw [show x.L (fsB b (A.getD i default))=_ from hl0]at hm;cases hm;rfl
     subst e
     rcases(h.lab _ l hl).2.2.2.2 with h1|h1
     . exact .inl ⟨h1,l,hl,by show l<=w+(A.getD i default).w;omega⟩
     . cases hk:x.K (ftB b (A.getD i default))with
       |none=>exact absurd hk h1
       | some j=>
         obtain⟨_,l',hl',hj⟩:=h.op _ j hk
         rw [hl]at hl';cases hl'
         refine .inr ⟨_,j,hk,?_⟩
         show j<=2*((w+(A.getD i default).w:Nat):Int)+qB pi b (ftB b (A.getD i default))
         omega
   . refine .inr ⟨y,j,h1,?_⟩
     have h2:j<=2*(w:Int)+qB pi b (fsB b (A.getD i default)):=h2
     show j<=2*((w+(A.getD i default).w:Nat):Int)+qB pi b (ftB b (A.getD i default))
     omega
theorem FeB.key{r:Nat}{b:Bool}{x:Sd}(f:FeB A r al pi b x (fun _=>False))(h:SvB A N r al pi b x)(hF:mP A al pi){v:Nat}{k:Int}(hp:iA x.K v k){u w:Nat}(hu:u∉x.O)(hw:Wk (hB A al pi b) r u w):k<=2*(w:Int)+qB pi b u:=by
 rcases f.front h hF hw with h1|⟨y,j,h1,h2⟩
 . exact absurd h1.1 hu
 . have:=hp.2 y j h1
   omega
end
end Go.Ab

end
section
namespace Go.Ab
inductive PathA(A:List Arc)(s:Nat):List Nat->Nat->Nat->Prop where
 |nil:PathA A s [] s 0
 |snoc {l:List Nat} {w a:Nat}:PathA A s l (A.getD a default).s w->a<A.length->PathA A s (l++[a]) (A.getD a default).t (w+(A.getD a default).w)
def endA(A:List Arc)(s:Nat)(l:List Nat)(i:Nat):Nat:=if i=0 then s else(A.getD (l.getD (i-1) 0) default).t
def sumA(A:List Arc)(l:List Nat)(k:Nat):Nat:=((l.take k).map fun a=>(A.getD a default).w).sum
theorem qZ{l:List Nat}{a i:Nat}(h:i<l.length):(l++[a]).getD i 0=l.getD i 0:=by
 rw [zM,zM,List.getElem?_append_left h]
theorem q7{l:List Nat}{a:Nat}:(l++[a]).getD l.length 0=a:=by simp [zM]
theorem vt{A:List Arc}{s a i:Nat}{l:List Nat}(h:i<=l.length):endA A s (l++[a]) i=endA A s l i:=by
 unfold endA
 split
 . rfl
 . rw [qZ (by omega)]
theorem PathA.at{A:List Arc}{s t w:Nat}{l:List Nat}(h:PathA A s l t w):(∀i,i<l.length->l.getD i 0<A.length/\(A.getD (l.getD i 0) default).s=endA A s l i)/\endA A s l l.length=t/\sumA A l l.length=w:=by
 induction h with
 |nil=>exact⟨fun i hi=>absurd hi (Nat.not_lt_zero _),rfl,rfl⟩
 | @snoc l w a _ ha ih=>
   obtain⟨h1,h2,h3⟩:=ih
   have hl:(l++[a]).length=l.length+1:=by simp
   refine⟨fun i hi=>?_,?_,?_⟩
   . rcases Nat.lt_or_ge i l.length with h|h
     . rw [qZ h,vt (Nat.le_of_lt h)];exact h1 i h
     . have:i=l.length:=by omega
       subst this
       rw [q7,vt (Xa _)]
       exact⟨ha,h2.symm⟩
   . rw [hl]
     unfold endA
     rw [if_neg (by omega),Nat.add_sub_cancel,q7]
   . unfold sumA at h3⊢
     rw [XN]at h3⊢
     rw [List.map_append,List.sum_append,h3]
     rfl
section
variable{A:List Arc}{N s:Nat}{al:Nat->Bool}{pi:Nat->Int}{σ:SS}
end
end Go.Ab

end
section
namespace Go.Ab
section
variable{A:List Arc}{N:Nat}{al:Nat->Bool}{pi:Nat->Int}{σ:Bi}{rt:Bool->Nat}
theorem clo_b{b:Bool}{v:Nat}:(aV σ b v).sd b=⟨bZ (σ.sd b).K v none,(σ.sd b).L,(σ.sd b).P,(σ.sd b).O++[v]⟩:=dg
theorem clo_n{b:Bool}{v:Nat}:(aV σ b v).sd (!b)=σ.sd (!b):=j6
theorem FeB.close{r b v}{k:Int}(f:FeB A r al pi b (σ.sd b) (fun _=>False))(h:SvB A N r al pi b (σ.sd b))(hF:mP A al pi)(hp:iA (σ.sd b).K v k):FeB A r al pi b ((aV σ b v).sd b) (fun a=>fsB b (A.getD a default)=v):=by
 obtain⟨hv,m,hm,hk⟩:=h.op v k hp.1
 rw [clo_b]
 refine⟨fun u hu l w hl hw=>?_,fun a ha hin hs hx=>?_,f.st⟩
 . rcases List.mem_append.1 hu with hu|hu
   . exact f.opt u hu l w hl hw
   . have e:=List.mem_singleton.1 hu
     subst e
     have e2:l=m:=by rw [show(σ.sd b).L u=_ from hm]at hl;cases hl;rfl
     subst e2
     have:=f.key h hF hp hv hw
     omega
 . rcases List.mem_append.1 hs with hs|hs
   . exact f.fr a ha hin hs (fun h=>h)
   . exact absurd (List.mem_singleton.1 hs) hx
theorem tV{b:Bool}{v lab:Nat}{p:List Nat}:(∀u,u≠v->((aU pi b σ v lab p).sd b).L u=(σ.sd b).L u)/\(v∉(σ.sd b).O->OpB pi v-> ∃l,((aU pi b σ v lab p).sd b).L v=some l/\l<=lab/\ ∀l',(σ.sd b).L v=some l'->l<=l')/\
 ((((aU pi b σ v lab p).sd b).L v=(σ.sd b).L v)\/(∀l',(σ.sd b).L v=some l'->lab<l')):=by
 unfold aU
 split
 . rename_i hc
   refine⟨fun _ _=>rfl,fun hv ho=>?_,.inl rfl⟩
   rcases hc with h|h|h
   . exact absurd h hv
   . exact absurd ho h
   . cases hl:(σ.sd b).L v with
     |none=>rw [hl]at h;cases h
     |some l=>rw [hl]at h;exact⟨l,rfl,of_decide_eq_true h,fun l' h'=>by cases h';exact Xa _⟩
 . rename_i hc
   simp only [not_or,Decidable.not_not]at hc
   have e:(mH ((σ.sd (!b)).L v) ⟨cC σ.sd b (dh pi (σ.sd b) b v lab p),σ.ev,σ.dist,σ.meet⟩ v lab).sd b=dh pi (σ.sd b) b v lab p:=by
    rw [kU.1];exact dg
   have lt: ∀l',(σ.sd b).L v=some l'->lab<l':=fun l' h'=>by
    have:=hc.2.2
    rw [h']at this
    simp only [leO,decide_eq_true_eq]at this
    omega
   rw [e]
   exact⟨fun u hu=>if_neg hu,fun _ _=>⟨lab,if_pos rfl,Xa _,fun l' h'=>Nat.le_of_lt (lt l' h')⟩,.inr lt⟩
theorem FeB.scan1 {r v m a:Nat} {b:Bool} {ex ex':Nat->Prop} (f:FeB A r al pi b (σ.sd b) ex) (h:SvB A N r al pi b (σ.sd b)) (rm:mG σ b v m) (ha:a<A.length) (hv:fsB b (A.getD a default)=v) (hx: ∀c,¬ex' c-> ¬ex c\/c=a):
 FeB A r al pi b ((co A al pi b v σ a).sd b) ex':=by
 obtain⟨h1,h2,_⟩:=rm
 have hlab:je σ b v=m:=by unfold je;rw [h2];rfl
 unfold co
 split
 . rename_i hal
   have hsd:(evB σ ⟨1,b,a,0⟩).sd b=σ.sd b:=rfl
   obtain⟨r1,r2,r3⟩:=tV (pi:=pi) (σ:=evB σ ⟨1,b,a,0⟩) (b:=b) (v:=ftB b (A.getD a default)) (lab:=je σ b v+(A.getD a default).w) (p:=a::(σ.sd b).P v)
   have ke:=iD (pi:=pi) (σ:=evB σ ⟨1,b,a,0⟩) (b:=b) (v:=ftB b (A.getD a default)) (lab:=je σ b v+(A.getD a default).w) (p:=a::(σ.sd b).P v)
   generalize aU pi b (evB σ ⟨1,b,a,0⟩) (ftB b (A.getD a default)) (je σ b v+(A.getD a default).w) (a::(σ.sd b).P v)=τ at r1 r2 r3 ke
   have kO:(τ.sd b).O=(σ.sd b).O:=ke.O
   have kL: ∀u∈(σ.sd b).O,(τ.sd b).L u=(σ.sd b).L u:=fun u hu=>(ke.L u hu).1
   refine⟨fun u hu l w hl hw=>?_,fun c hc hin hs hex=>?_,?_⟩
   . rw [kO]at hu
     rw [kL u hu]at hl
     exact f.opt u hu l w hl hw
   . rw [kO]at hs
     rw [kL _ hs]
     rcases hx c hex with hnx|e
     . obtain⟨l,m',e1,e2,e3⟩:=f.fr c hc hin hs hnx
       by_cases e:ftB b (A.getD c default)=ftB b (A.getD a default)
       . by_cases ho:ftB b (A.getD a default)∈(σ.sd b).O
         . exact⟨l,m',e1,by rw [kL _ (e▸ho)];exact e2,e3⟩
         . have o1:=(h.lab _ l e2).2.1
           rw [e]at o1 e2
           obtain⟨l2,a1,_,a3⟩:=r2 ho o1
           have:=a3 l e2
           exact⟨l2,m',e1,by rw [e];exact a1,by omega⟩
       . exact⟨l,m',e1,by rw [r1 _ e];exact e2,e3⟩
     . subst e
       have o1:OpB pi (ftB b (A.getD c default)):=by
        cases b with
        |false=>exact hin.2.2
        |true=>exact hin.2.1
       by_cases ho:ftB b (A.getD c default)∈(σ.sd b).O
       . obtain⟨_,hne⟩:=h.lt _ ho
         cases hl:(σ.sd b).L (ftB b (A.getD c default))with
         |none=>exact absurd hl hne
         | some l=>
           refine⟨l,m,by rw [hv];exact h2,by rw [kL _ ho];exact hl,f.opt _ ho l _ hl ?_⟩
           exact(h.wk _ (Xa _) h2).snoc' (nw.2 ⟨c,ha,hin,rfl⟩) hv rfl rfl
       . obtain⟨l2,a1,a2,_⟩:=r2 ho o1
         exact⟨l2,m,by rw [hv];exact h2,a1,by rw [hlab]at a2;exact a2⟩
   . by_cases e:r=ftB b (A.getD a default)
     . rcases r3 with r3|r3
       . rw [e,r3,hsd,<-e];exact f.st
       . have:=r3 0 (by rw [hsd,<-e];exact f.st)
         omega
     . rw [r1 r e];exact f.st
 . rename_i hal
   refine⟨f.opt,fun c hc hin hs hex=>?_,f.st⟩
   rcases hx c hex with hnx|e
   . exact f.fr c hc hin hs hnx
   . subst e;exact absurd hin.1 hal
theorem FeB.scanL{r v m:Nat}{b:Bool}(hN:N<=12)(hA: ∀a∈A,a.s<N/\a.t<N/\a.w<=bz)(hr:r=rt b): ∀(l:List Nat) {σ:Bi},FeB A r al pi b (σ.sd b) (· ∈l)->BiI A N rt al pi σ->mG σ b v m->(∀a∈l,a<A.length/\fsB b (A.getD a default)=v)->
 FeB A r al pi b ((l.foldl (co A al pi b v) σ).sd b) (fun _=>False)
 | [],_,f,_,_,_=>⟨f.opt,fun a ha hin hs _=>f.fr a ha hin hs (by simp),f.st⟩
 | a::l,σ,f,h,rm,hl=>by
   obtain⟨ha,hv⟩:=hl a Xl
   have f1:=FeB.scan1 (ex':=(· ∈l)) f (by rw [hr];exact h.sv b) rm ha hv (fun c hc=>by
    by_cases e:c=a
    . exact .inr e
    . exact .inl (fun hm=>(List.mem_cons.1 hm).elim e hc))
   obtain⟨h1,h2⟩:=rH hN hA h rm ha hv
   exact FeB.scanL hN hA hr l f1 h1 (rm.ke h2) (fun x hx=>hl x (XU _ hx))
def BiF(A:List Arc)(rt:Bool->Nat)(al:Nat->Bool)(pi:Nat->Int)(σ:Bi):Prop:= ∀i,FeB A (rt i) al pi i (σ.sd i) (fun _=>False)
theorem stepB_F{b:Bool}{v:Nat}{k:Int}(hN:N<=12)(hA: ∀a∈A,a.s<N/\a.t<N/\a.w<=bz)(hF:mP A al pi)(h:BiI A N rt al pi σ)(f:BiF A rt al pi σ)(hp:iA (σ.sd b).K v k):BiF A rt al pi (fG A al pi b v (aV σ b v)):=by
 obtain⟨h1,m,rm,_⟩:=pG h hp.1
 obtain⟨_,ke⟩:=qC hN hA h hp.1
 intro i
 by_cases e:i=b
 . subst e
   exact FeB.scanL hN hA rfl _ (by
    have g:=(f i).close (h.sv i) hF hp
    exact⟨g.opt,fun a ha hin hs hex=>g.fr a ha hin hs (fun hc=>hex (nI.2 ⟨ha,hc⟩)),g.st⟩) h1 rm (fun a ha=>nI.1 ha)
 . rw [ng e,ke.ot,clo_n]
   exact f (!b)
end
end Go.Ab

end
section
namespace Go.Ab
def rtB(s t:Nat)(i:Bool):Nat:=if i then t else s
def arcsB(σ:Bi):List Nat:=((σ.sd false).P σ.meet).reverse++(σ.sd true).P σ.meet
section
variable{A:List Arc}{N s t:Nat}{al:Nat->Bool}{pi:Nat->Int}{σ:Bi}
theorem tS:BiI A N (rtB s t) al pi ⟨fun _=>cR,[],FAR,0⟩:=
 ⟨fun i=>⟨.nil,fun v hv=>(by cases hv),fun v k hk=>(by cases hk),fun v l hl=>(by cases hl),fun v l hl=>(by cases hl)⟩,.inl ⟨rfl,fun i v x hx=>rfl⟩,fun i v x y hx=>(by cases hx)⟩
theorem initB_I(hN:N<=12)(hs:s<N)(ht:t<N):BiI A N (rtB s t) al pi (ip pi s t):=
 (tS.reach (b:=false) (p:=[]) (lab:=0) hN hs (Xg _) (Xg _) (.inl ⟨rfl,rfl,rfl⟩)).reach (b:=true) (p:=[]) (lab:=0) hN ht (Xg _) (Xg _) (.inl ⟨rfl,rfl,rfl⟩)
theorem tP(i:Bool):((ip pi s t).sd i).O=[]:=by
 have k1:=iD (pi:=pi) (σ:=⟨fun _=>cR,[],FAR,0⟩) (b:=false) (v:=s) (lab:=0) (p:=[])
 have k2:=iD (pi:=pi) (σ:=aU pi false ⟨fun _=>cR,[],FAR,0⟩ s 0 []) (b:=true) (v:=t) (lab:=0) (p:=[])
 cases i
 . have:=k2.ot
   show((aU pi true _ t 0 []).sd (!true)).O=[]
   rw [this]
   exact k1.O
 . exact k2.O.trans (by rw [show(true:Bool)=(!false)from rfl,k1.ot];rfl)
theorem pO:(ip pi s t).ev=[]:=by
 have e: ∀{b:Bool} {σ:Bi} {v lab:Nat} {p:List Nat},(aU pi b σ v lab p).ev=σ.ev:=by
  intro b σ v lab p
  unfold aU
  split
  . rfl
  . exact kU.2
 unfold ip
 rw [e,e]
theorem initB_F(os:OpB pi s)(ot:OpB pi t):BiF A (rtB s t) al pi (ip pi s t):=by
 have k1:=iD (pi:=pi) (σ:=⟨fun _=>cR,[],FAR,0⟩) (b:=false) (v:=s) (lab:=0) (p:=[])
 have k2:=iD (pi:=pi) (σ:=aU pi false ⟨fun _=>cR,[],FAR,0⟩ s 0 []) (b:=true) (v:=t) (lab:=0) (p:=[])
 have o1:((aU pi false ⟨fun _=>cR,[],FAR,0⟩ s 0 []).sd true).O=[]:=by rw [show(true:Bool)=(!false)from rfl,k1.ot];rfl
 have l1:=(tV (pi:=pi) (σ:=⟨fun _=>cR,[],FAR,0⟩) (b:=false) (v:=s) (lab:=0) (p:=[])).2.1 (fun h=>by cases h) os
 have l2:=(tV (pi:=pi) (σ:=aU pi false ⟨fun _=>cR,[],FAR,0⟩ s 0 []) (b:=true) (v:=t) (lab:=0) (p:=[])).2.1 (fun h=>by rw [o1]at h;cases h) ot
 intro i
 refine⟨fun v hv=>(by rw [tP]at hv;cases hv),fun a _ _ hv=>(by rw [tP]at hv;cases hv),?_⟩
 cases i
 . obtain⟨l,a,b,_⟩:=l1
   show((aU pi true _ t 0 []).sd (!true)).L s=some 0
   rw [k2.ot,show(!true)=false from rfl,a]
   congr 1;omega
 . obtain⟨l,a,b,_⟩:=l2
   show((aU pi true _ t 0 []).sd true).L t=some 0
   rw [a]
   congr 1;omega
def EvP(A:List Arc)(rt:Bool->Nat)(al:Nat->Bool)(pi:Nat->Int)(l:List Ev2):Prop:= ∀e∈l,e.kind=0->Wk (hB A al pi e.side) (rt e.side) e.id e.lab/\ ∀w,Wk (hB A al pi e.side) (rt e.side) e.id w->e.lab<=w
theorem qs{b:Bool}{v lab:Nat}{p:List Nat}:(aU pi b σ v lab p).ev=σ.ev:=by
 unfold aU
 split
 . rfl
 . exact kU.2
theorem EvP.scan1{rt:Bool->Nat}{b:Bool}{v a:Nat}(h:EvP A rt al pi σ.ev):EvP A rt al pi (co A al pi b v σ a).ev:=by
 unfold co
 split
 . rw [qs]
   intro e he hk
   rcases List.mem_append.1 he with he|he
   . exact h e he hk
   . rw [List.mem_singleton.1 he]at hk;cases hk
 . exact h
theorem EvP.scanL{rt:Bool->Nat}{b:Bool}{v:Nat}: ∀(l:List Nat) {σ:Bi},EvP A rt al pi σ.ev->EvP A rt al pi (l.foldl (co A al pi b v) σ).ev
 | [],_,h=>h
 |_::l,_,h=>EvP.scanL l h.scan1
theorem ends_EvP{τ:Bi}{rt:Bool->Nat}(hN:N<=12)(hA: ∀a∈A,a.s<N/\a.t<N/\a.w<=bz)(hF:mP A al pi)(he:jI A al pi σ τ):BiI A N rt al pi σ->BiF A rt al pi σ->EvP A rt al pi σ.ev->EvP A rt al pi τ.ev:=by
 induction he with
 |stop _=>exact fun _ _ h=>h
 | @step σ τ i v k _ hp _ ih=>
   intro h f hev
   refine ih (qC hN hA h hp.1).1 (stepB_F hN hA hF h f hp) (EvP.scanL _ ?_)
   intro e he hk
   rcases List.mem_append.1 he with he|he
   . exact hev e he hk
   . rw [List.mem_singleton.1 he]
     obtain⟨_,m,_,hm,hk,hv⟩:=pG h hp.1
     have hl:je σ i v=m:=by unfold je;rw [hm];rfl
     refine⟨by rw [hl];exact(h.sv i).wk _ (Xa _) hm,fun w hw=>?_⟩
     have:=(f i).key (h.sv i) hF hp hv hw
     show je σ i v<=w
     omega
end
end Go.Ab

end
section
namespace Go.Ab
open Go.Proofs
set_option maxRecDepth 10000
theorem BiI.distLe{A:List Arc}{N:Nat}{rt:Bool->Nat}{al:Nat->Bool}{pi:Nat->Int}{σ:Bi}(h:BiI A N rt al pi σ)(hN:N<=12):σ.dist<=FAR:=by
 have fr:=gO
 have wm:=kD
 rcases h.dm with⟨e,_⟩|h2
 . omega
 . obtain⟨x,y,e1,e2,e3⟩:=h2 false
   have h3:=((h.sv false).lab _ x e1).2.2.1
   have h4:=((h.sv (!false)).lab _ y e2).2.2.1
   have h5:=Xq bz (XE (h.sv false).len hN)
   have h6:=Xq bz (XE (h.sv (!false)).len hN)
   omega
theorem SvB.has{A:List Arc}{N r:Nat}{al:Nat->Bool}{pi:Nat->Int}{i:Bool}{x:Sd}(h:SvB A N r al pi i x){v l:Nat}(hl:x.L v=some l)(hv:v∉x.O):x.K v=some (2*(l:Int)+qB pi i v):=by
 have hk:=((h.lab v l hl).2.2.2.2).resolve_left hv
 cases hK:x.K v with
 |none=>exact absurd hK hk
 | some k=>
   obtain⟨_,l',e,ek⟩:=h.op v k hK
   rw [hl]at e
   cases e
   rw [ek]
theorem SvB.hasNo{A:List Arc}{N r:Nat}{al:Nat->Bool}{pi:Nat->Int}{i:Bool}{x:Sd}(h:SvB A N r al pi i x){v:Nat}(hl:x.L v=none):x.K v=none:=by
 cases hK:x.K v with
 |none=>rfl
 | some k=>
   obtain⟨_,l',e,ek⟩:=h.op v k hK
   rw [hl]at e
   cases e
theorem pb{h0:Hp}(ok:h0.t.Sized h0.n){br:Nat}{pn:Value}{s t:Nat}{vPi:Value}{pis:List Int}{X:Bool->Sx}{F:Bool->List Nat}{vE:Value}{N:Nat}{σ:Bi}(a:dG h0 br pn s t vPi X F vE N σ)
 (sP:aA h0 1 (encI .i64) vPi pis) (lP:pis.length=N) (nP: ∀c,av vPi c->c∉boB br pn s t vPi X F vE σ) (hN:N<=12) {A:List Arc} {rt:Bool->Nat} {al:Nat->Bool} (I:BiI A N rt al (fun v=>pis.getD v 0) σ) {i:Bool} {v lab:Nat} {p:List Nat} (hv:v<N) (hl:lab<=13*bz):
 Ret zO 89 [ptrTo br,ptrTo (X i).b,.int .i64 (v:Nat),.int .i64 (byI p),.int .i64 (lab:Nat)] h0 fun _ h'=>Mo (· ∈boB br pn s t vPi X F vE σ) h0 h'/\ ∃X' F',dG h' br pn s t vPi X' F' vE N (aU (fun v=>pis.getD v 0) i σ v lab p)/\(∀j,(X' j).b=(X j).b/\(X' j).vA=(X j).vA/\(X' j).vH=(X j).vH)/\ ∀c∈boB br pn s t vPi X' F' vE (aU (fun v=>pis.getD v 0) i σ v lab p),c∈boB br pn s t vPi X F vE σ\/h0.n<=c:=
 breach_ok ok a sP lP nP hN hv hl (I.distLe hN) (fun j u l hu=>by
  have h3:=((I.sv j).lab u l hu).2.2.1
  have h5:=Xq bz (XE (I.sv j).len hN)
  have wm:=kD
  omega) (fun l hl ho=>(I.sv i).has hl ho) (fun h=>(I.sv i).hasNo h)
def Tryz.FFbo891:=aj Z1<|aj Z2<|aj Z0<|aj Z3<|aj Z7<|aj Z9<|aj Z14<|aj Z17<|aj Z19<|aj Z27<|aj Z5<|aj Z6<|aj Z10<|aj Z4<|aj Z25<|aj Z33<|aj Z31<|aj Z8<|aj Z34<|aj Z35<|aj Z12<|aj Z11<|aj Z26<|aj Z42<|aj Z43<|aj Z44<|aj Z45<|aj Z32<|aj Z16<|aj Z23<|aj Z50<|aj Z51<|aj Z20<|Z24
theorem note_look{ρ:Operand->Value}{b ok:Bool}{t:TypeId}{m k:Operand}{h h':Hp}:cb ρ b (.lookup t m k ok) h h'=(match ρ m with| .map (some r)=>some (.blk r)|_=>none):=by
 simp only [cb,dr,iP,d6,touch,cond_false]
 cases ρ m<;>first|rfl|(rename_i x;cases x<;>rfl)
theorem rR{A:List Arc}{al:Nat->Bool}{pi:Nat->Int}{b:Bool}{v:Nat}: ∀(l:List Nat) {σ:Bi},(l.foldl (co A al pi b v) σ).ev.length<=σ.ev.length+l.length
 | [],_=>Xa _
 | a::l,σ=>by
   have h:=rR (A:=A) (al:=al) (pi:=pi) (b:=b) (v:=v) l (σ:=co A al pi b v σ a)
   have h1:(co A al pi b v σ a).ev.length<=σ.ev.length+1:=by
    unfold co
    split
    . rw [qs]
      simp [evB]
    . omega
   rw [List.foldl_cons,XQ]
   omega
theorem nY: ∀e:Ev2,(fd e).length=4:=fun _=>rfl
def outF(i:Bool):FuncId:=if i then 87 else 85
theorem outF_ok{h0:Hp}(ok:h0.t.Sized h0.n){p:Value}{γ:Gra}{nb:Nat}(c:bN h0 nb p γ)(hγ:γ.arcs.length<1000){i:Bool}{v:Nat}(hv:v<γ.nodes):Ret zO (outF i) [p,.int .i64 v] h0 fun r h'=>Gr h0 h'/\aA h' 1 cJ r (outs γ.arcs (fsB i) γ.arcs.length v)/\ ∀c,av r c->h0.n<=c:=by
 cases i
 . exact uG ok c hγ hv
 . exact vk ok c hγ hv
theorem dG.lt{h:Hp}(ok:h.t.Sized h.n){br:Nat}{pn:Value}{s t:Nat}{vPi:Value}{X:Bool->Sx}{F:Bool->List Nat}{vE:Value}{N:Nat}{σ:Bi}(a:dG h br pn s t vPi X F vE N σ): ∀c∈boB br pn s t vPi X F vE σ,c<h.n:=fun c hc=>
 (List.mem_append.1 hc).elim (fun h=>(a.st ok false).key_lt h) (fun h=>(List.mem_append.1 h).elim (fun h=>(a.heap false).lt ok c h) (fun h=>(a.heap true).lt ok c h))
theorem bo_fin{h0 h':Hp}{br:Nat}{pn:Value}{s t:Nat}{vPi:Value}{X:Bool->Sx}{F:Bool->List Nat}{vE:Value}{N:Nat}{σ:Bi}(a:dG h0 br pn s t vPi X F vE N σ){i:Bool}{x2:Sx}(e:x2.b=(X i).b/\x2.vA=(X i).vA/\x2.vH=(X i).vH){τ:Bi}{y:Sd}(hsd:τ.sd=cC σ.sd i y){vE2:Value}{F6:List Nat}
 (S:St (· ∈boB br pn s t vPi X F vE σ) h0 h' ((br,.row (eW pn s t vPi X vE2 τ) 1)::(x2.L i++(X (!i)).L (!i))) (boG vE2 τ)) (H6:bj h' F6 (ptrTo x2.p) N y.K) (Hx6:bj h' (F (!i)) (ptrTo (X (!i)).p) N (σ.sd (!i)).K) (ok2:x2.Ok y)
 (hF6: ∀c∈F6,c∈F i\/h0.n<=c) (ap6: ∀c∈F6,c∉keys ((br,Ob.row (eW pn s t vPi X vE2 τ) 1)::(x2.L i++(X (!i)).L (!i))) (boG vE2 τ)/\c∉F (!i)) (apx: ∀c∈F (!i),c∉keys ((br,Ob.row (eW pn s t vPi X vE2 τ) 1)::(x2.L i++(X (!i)).L (!i))) (boG vE2 τ)):
 ∃X' F',dG h' br pn s t vPi X' F' vE2 N τ/\(∀j,(X' j).b=(X j).b/\(X' j).vA=(X j).vA/\(X' j).vH=(X j).vH)/\ ∀c∈boB br pn s t vPi X' F' vE2 τ,c∈boB br pn s t vPi X F vE σ\/h0.n<=c:=by
 have hi2: ∀j:Bool,j≠i->j= !i:=fun j h=>ng h
 have hni:(!i)≠i:=not_ne
 let X':Bool->Sx:=fun j=>if j=i then x2 else X j
 let F':Bool->List Nat:=fun j=>if j=i then F6 else F j
 have xi:X' i=x2:=if_pos rfl
 have xo:X' (!i)=X (!i):=if_neg hni
 have fi:F' i=F6:=if_pos rfl
 have fo:F' (!i)=F (!i):=if_neg hni
 have hbb: ∀j,(X' j).b=(X j).b/\(X' j).vA=(X j).vA/\(X' j).vH=(X j).vH:=fun j=>by
  by_cases hj:j=i
  . subst hj;rw [xi];exact e
  . rw [hi2 j hj,xo];exact⟨rfl,rfl,rfl⟩
 have eL:boL i br pn s t vPi X' vE2 τ=(br,.row (eW pn s t vPi X vE2 τ) 1)::(x2.L i++(X (!i)).L (!i)):=by
  simp only [boL,eW,xi,xo,(hbb false).1,(hbb true).1]
 rw [<-eL]at S ap6 apx
 refine⟨X',F',dG.of i S (fun j=>?_) (fun j=>?_) (fun j c hc=>?_),hbb,fun c hc=>?_⟩
 . by_cases hj:j=i
   . subst hj
     rw [fi,xi,hsd,dg]
     exact H6
   . rw [hi2 j hj,fo,xo,hsd,j6]
     exact Hx6
 . by_cases hj:j=i
   . subst hj
     rw [xi,hsd,dg]
     exact ok2
   . rw [hi2 j hj,xo,hsd,j6]
     exact a.ok _
 . by_cases hj:j=i
   . subst hj
     rw [fi]at hc
     rw [fo]
     exact ap6 c hc
   . rw [hi2 j hj]at hc⊢
     rw [fo]at hc
     rw [XD,fi]
     exact⟨apx c hc,fun hm=>(ap6 c hm).2 hc⟩
 . have hB: ∀j,∀c∈F' j,c∈boB br pn s t vPi X F vE σ\/h0.n<=c:=fun j c hc=>by
    by_cases hj:j=i
    . subst hj
      rw [fi]at hc
      exact(hF6 c hc).elim (fun h=>.inl (nv h)) .inr
    . rw [hi2 j hj,fo]at hc
      exact .inl (nv hc)
   rcases List.mem_append.1 hc with hc|hc
   . refine(S.key_own ?_).symm
     unfold keys at hc⊢
     rcases List.mem_append.1 hc with h|h
     . exact zN _ (((lB i).map _).mem_iff.2 h)
     . exact zS _ h
   . rcases List.mem_append.1 hc with hc|hc
     . exact hB _ c hc
     . exact hB _ c hc
theorem bstep_ok {hq h0:Hp} (gq:Gr hq h0) {br bp nb:Nat} {s t:Nat} {vPi:Value} {pis:List Int} {X:Bool->Sx} {F:Bool->List Nat} {vE:Value} {σ:Bi} {γ:Gra} (hγ:Good γ) (hn:bN hq nb (ptrTo bp) γ) (a:dG h0 br (ptrTo bp) s t vPi X F vE γ.nodes σ) (hB: ∀c∈boB br (ptrTo bp) s t vPi X F vE σ,hq.n<=c)
 (sP:aA hq 1 (encI .i64) vPi pis) (lP:pis.length=γ.nodes) {rt:Bool->Nat} (I:BiI γ.arcs γ.nodes rt (fun _=>true) (fun v=>pis.getD v 0) σ) (hev:σ.ev.length<=100000) {i:Bool} {v:Nat} {k:Int} (hp:iA (σ.sd i).K v k) (hA:(X i).vA=.func (.func (outF i)) #[ptrTo bp] #[]) (hH:(X i).vH=.func (.func (lO i)) #[] #[]):
 Ret zO 91 [ptrTo br,ptrTo (X i).b] h0 fun _ h'=>Mo (· ∈boB br (ptrTo bp) s t vPi X F vE σ) h0 h'/\ ∃X' F' vE',dG h' br (ptrTo bp) s t vPi X' F' vE' γ.nodes (fG γ.arcs (fun _=>true) (fun v=>pis.getD v 0) i v (aV σ i v))/\(∀j,(X' j).b=(X j).b/\(X' j).vA=(X j).vA/\(X' j).vH=(X j).vH)/\ ∀c∈boB br (ptrTo bp) s t vPi X' F' vE' (fG γ.arcs (fun _=>true) (fun v=>pis.getD v 0) i v (aV σ i v)),c∈boB br (ptrTo bp) s t vPi X F vE σ\/h0.n<=c:=by
 have ok:=gq.ok
 have n2:=hγ.n2
 have S:=a.st ok i
 have Ho:=a.ok i
 have H:=a.heap i
 have Hx:=a.heap (!i)
 have hk:=fun j c (hc:c∈F j)=>a.apart' i hc
 have hFB: ∀j,∀c∈F j,c∈boB br (ptrTo bp) s t vPi X F vE σ\/h0.n<=c:=fun j c hc=>.inl (nv hc)
 generalize hBB:boB br (ptrTo bp) s t vPi X F vE σ=BB at S hFB
 rcases hX:X i with⟨xb,xp,xl,xa,xc,vA,vH,el,cl,ea,ca,ec,cc⟩
 rcases hY:X (!i)with⟨yb,yp,yl,ya,yc,wA,wH,fl,dl,fa,da,fc,dc⟩
 rw [hX]at Ho H hA hH
 rw [hY]at Hx
 obtain⟨gl,ML,hgl⟩:=Ho.ml
 obtain⟨gc,MC,hgc⟩:=Ho.mc
 simp only []at ML MC hA hH
 subst hA hH
 simp only [LC,boL,boG,eW,Sx.L,Sx.row,hX,hY]at S hk
 have hkl:=fun c hc=>S.key_lt (b:=c) hc
 obtain⟨hvO,l,hLv,hkv⟩:=(I.sv i).op v k hp.1
 have hvN:=((I.sv i).lab v l hLv).1
 refine ab (n:=125) (rs:=[]) rfl Tryz.e91 rfl rfl rfl (lbt rfl) ?_
 simp only [BS,LB,Nat.reduceLT,Nat.reduceEqDiff,Tryz.FFbo891,S.ld (b:=xb) (o:=0) m1 rfl]
 refine step_ret (th S.ok H (by omega)) ?_
 rintro rv h2 (⟨_,hnone,_⟩|⟨v',k',rfl,hk',hmin,f2,H2⟩)
 . exact absurd ((hnone v).symm.trans hp.1) (by nofun)
 . obtain ⟨rfl,rfl⟩:=hp.uniq (⟨hk',hmin⟩:iA (σ.sd i).K v' k')
   replace S:=S.stepF f2 (fun c hc=>⟨hFB i c hc,hk i c hc⟩)
   have Hx2:=Hx.mo f2 (fun c hc hm=>(a.apart (!i) c hc).2 (by rw [XD];exact hm))
   have S2:=S
   have lF2:=H2.lt S2.ok
   have lFx:=Hx2.lt S2.ok
   replace S:=S.base
   have lkc:=jD (x:=(v:Int)) XI Xk (z:=.int .i64 0) (by kernel_rfl) (show h2.get xc=some (.map ec cc)from(S.own _ m4).2) MC
   rw [hgc,if_neg hvO,zZ]at lkc
   have w1:aq .i64 ((0:Int)+1)=1:=rfl
   simp only [BS,LB,Nat.reduceLT,Nat.reduceEqDiff,Int.reduceAdd,Tryz.FFbo891,lkc,S.ld (b:=xb) (o:=7) m1 rfl]
   refine aC (S.mputI (i:=4) rfl XI Xk MC _) ?_
   clear S;rintro h3 ⟨mo3,ec2,cc2,MC2,S⟩
   simp only [LC]at S
   have lkl:=jD (x:=(v:Int)) XB Xk (z:=.int .i64 0) (by kernel_rfl) (show h3.get xl=some (.map el cl)from(S.own _ m2).2) ML
   rw [hgl,hLv,Xb,zV]at lkl
   have fvE:Fl vE:=(S.gown _ m0).1.fl
   simp only [BS]
   refine aD (aM rfl) (q:=262144) (ps:=[]) (by kernel_rfl) ?_
   simp only [BS,LB,cls,Nat.reduceLT,Nat.reduceEqDiff,Nat.reduceAdd,Nat.reducePow,Nat.reduceDiv,Nat.reduceMod,Nat.reduceLeDiff,Tryz.FFbo891,lkl,S.ld (b:=br) (o:=9) m0 rfl,S.ld (b:=xb) (o:=1) m1 rfl,S.ld (b:=xb) (o:=5) m1 rfl]
   refine dC (cm (by exact XX) (by exact XW) (by decide) (by rfl)) S ?_;clear S;intro h bs S n_bs e_bs;simp only [LC,aY,bM,an,Nat.reduceMul,Nat.reduceAdd,Xs,Xt,Xm,Xw]at S
   simp only [BS,LB,cls,Nat.reduceLT,Nat.reduceEqDiff,Nat.reduceAdd,Nat.reducePow,Nat.reduceDiv,Nat.reduceMod,Nat.reduceLeDiff]
   have src:aO h 4 (.slice (some ⟨bs,0,none⟩) 1 1)=some (1,fd ⟨0,i,v,l⟩):=by simp only [aO];rw [S.lds (b:=bs) (o:=0) (n:=1*4) m0 (lbt rfl)];rfl
   replace S:=S.drop1
   refine jK (S.grow (j:=0) (m:=1) (new:=fd ⟨0,i,v,l⟩) rfl XX XW (by decide) Tryz.n48 src rfl (by decide) rfl (by rw [aX nY];show(_+4)*_<=_;omega)) ?_
   clear S src;rintro h4 vE' S
   simp only [LC]at S
   have fvE':Fl vE':=(S.gown _ m0).1.fl
   simp only [BS,LB,cls,Nat.reduceLT,Nat.reduceEqDiff,Nat.reduceAdd,Nat.reducePow,Nat.reduceDiv,Nat.reduceMod,Nat.reduceLeDiff,Tryz.FFbo891]
   refine dK (aI S (i:=0) rfl Tryz.s48 fvE' (Xe (lbt rfl)) ono) ?_
   clear S;rintro h5 ⟨S,mo5⟩
   simp only [LC]at S
   have T:=S2.rebase S
   have eLab:je σ i v=l:=by unfold je;rw [hLv];rfl
   have bo:=bo_fin a (i:=i) (x2:=⟨xb,xp,xl,xa,xc,.func (.func (outF i)) #[ptrTo bp] #[],.func (.func (lO i)) #[] #[],el,cl,ea,ca,ec2,cc2⟩) (by rw [hX];exact⟨rfl,rfl,rfl⟩) (τ:=aV σ i v) (y:=⟨bZ (σ.sd i).K v none,(σ.sd i).L,(σ.sd i).P,(σ.sd i).O++[v]⟩) rfl (vE2:=vE') (F6:=F i) (h':=h5) (by
    rw [hBB]
    simp only [eW,Sx.L,Sx.row,hY,zY,Xc,boG,aV,eLab,zX,Xf,Xi,zQ]
    exact T) (H2.mo S.fr (fun c hc=>hk i c hc)) (by rw [hY];exact Hx2.mo S.fr (fun c hc=>hk _ c hc)) (⟨⟨gl,ML,hgl⟩,Ho.ma,⟨_,MC2,fun u=>by
    simp only [c8]
    by_cases hu:u=v
    . subst hu;simp;rfl
    . rw [if_neg (by omega),hgc u]
      simp [hu]⟩⟩) (fun c hc=>.inl hc) (fun c hc=>⟨fun hm=>by
    simp only [eW,Sx.L,Sx.row,hY,zY,Xc,boG,aV,eLab,zX,Xf,Xi,zQ]at hm
    exact(S.key_own hm).elim (fun h=>by have:=lF2 c hc;omega) (fun h=>hk i c hc h),(a.apart i c hc).2⟩) (fun c hc hm=>by
    simp only [eW,Sx.L,Sx.row,hY,zY,Xc,boG,aV,eLab,zX,Xf,Xi,zQ]at hm
    exact(S.key_own hm).elim (fun h=>by have:=lFx c hc;omega) (fun h=>hk _ c hc h))
   obtain⟨X2,F2,A2,e2,sub2⟩:=bo
   have hBT: ∀c∈BB,hq.n<=c:=fun c hc=>hB c (by rw [hBB];exact hc)
   have gQ5:Gr hq h5:=gq.mo' T.fr hBT
   obtain⟨I5,m5,R5,hm5,_,_⟩:=pG I hp.1
   simp only [BS,LB,Nat.reduceLT,Nat.reduceEqDiff,Nat.reduceAdd,Tryz.FFbo891,S.ld (b:=xb) (o:=3) m1 rfl]
   refine step_ret (outF_ok (i:=i) S.ok (hn.gr gQ5) (by have:=hγ.many;omega) hvN) ?_
   rintro vL h6 ⟨g6,sL,nL⟩
   have f6:Mo (· ∈BB) h0 h6:=T.fr.trans (g6.fr (M:=NoM)) (fun _ h=>h.elim)
   have A6:=A2.gr g6
   have n6:h5.n<=h6.n:=g6.n
   have lB5: ∀c∈boB br (ptrTo bp) s t vPi X2 F2 vE' (aV σ i v),c<h5.n:=A2.lt S.ok
   generalize hL:outs γ.arcs (fsB i) γ.arcs.length v=L at sL
   have hLm: ∀e∈L,e<γ.arcs.length/\fsB i (γ.arcs.getD e default)=v:=fun e he=>by rw [<-hL]at he;exact nI.1 he
   have hLl:L.length<=γ.arcs.length:=by rw [<-hL];exact jY _ _ _ _
   have hscan:fG γ.arcs (fun _=>true) (fun v=>pis.getD v 0) i v (aV σ i v)=L.foldl (co γ.arcs (fun _=>true) (fun v=>pis.getD v 0) i v) (aV σ i v):=by unfold fG;rw [hL]
   rw [hscan]
   have xb2:(X2 i).b=xb:=by rw [(e2 i).1,hX]
   simp only [BS,LB,Nat.reduceLT,Nat.reduceEqDiff,Tryz.FFbo891,sL.lenq]
   refine bA (fun(j:Nat) ρ h=>j<=L.length/\ ∃X3 F3 vE3,dG h br (ptrTo bp) s t vPi X3 F3 vE3 γ.nodes ((L.take j).foldl (co γ.arcs (fun _=>true) (fun v=>pis.getD v 0) i v) (aV σ i v))/\BiI γ.arcs γ.nodes rt (fun _=>true) (fun v=>pis.getD v 0) ((L.take j).foldl (co γ.arcs (fun _=>true) (fun v=>pis.getD v 0) i v) (aV σ i v))/\mG ((L.take j).foldl (co γ.arcs (fun _=>true) (fun v=>pis.getD v 0) i v) (aV σ i v)) i v m5/\(∀j,(X3 j).b=(X j).b/\(X3 j).vA=(X j).vA/\(X3 j).vH=(X j).vH)/\Mo (· ∈BB) h0 h/\(∀c∈boB br (ptrTo bp) s t vPi X3 F3 vE3 ((L.take j).foldl (co γ.arcs (fun _=>true) (fun v=>pis.getD v 0) i v) (aV σ i v)),(c∈BB\/h0.n<=c)/\ ¬av vL c)/\aA h 1 cJ vL L/\ρ 0=ptrTo br/\ρ 1=ptrTo xb/\ρ 4=.int .i64 (v:Nat)/\ρ 55=vL/\ρ 56=.int .i64 (L.length:Nat)/\ρ 57=.int .i64 j) (fun j=>L.length-j) ?_ 0 _ _ ?_
   . clear S A6 sL
     intro j ih ρ h ⟨hj,X3,F3,vE3,A3,I3,R3,e3,f3,sub3,sL,r0,r1,r4,r55,r56,r57⟩
     have w:aq .i64 ((j:Int)+1)=((j+1:Nat):Int):=by have:=hγ.many;rw [wrap64]<;>omega
     by_cases hlt:j<L.length
     . obtain⟨c0,o0,x0,y0⟩:=sL.ix (kd:=.i64) ii hlt
       obtain⟨hel,hev'⟩:=hLm _ (Xh hlt)
       have etk:L.take (j+1)=L.take j++[L[j]]:=List.take_succ_eq_append_getElem hlt
       generalize L[j]=e at y0 hel hev' etk
       replace y0:h.load c0 o0 1=some [.int .i64 (e:Nat)]:=y0
       generalize hτ:(L.take j).foldl (co γ.arcs (fun _=>true) (fun v=>pis.getD v 0) i v) (aV σ i v)=τ at A3 I3 R3 sub3
       have okh:=f3.ok
       have S:=A3.st okh i
       have Ho3:=A3.ok i
       have H3:=A3.heap i
       have Hx3:=A3.heap (!i)
       have hk3:=fun j c (hc:c∈F3 j)=>A3.apart' i hc
       have b3i:=e3 i
       rw [hX]at b3i
       generalize hBB3:boB br (ptrTo bp) s t vPi X3 F3 vE3 τ=BB3 at S sub3
       rcases hX3:X3 i with⟨xb3,xp3,xl3,xa3,xc3,vA3,vH3,el3,cl3,ea3,ca3,ec3,cc3⟩
       rcases hY3:X3 (!i)with⟨yb3,yp3,yl3,ya3,yc3,wA3,wH3,fl3,dl3,fa3,da3,fc3,dc3⟩
       rw [hX3]at Ho3 H3 b3i
       rw [hY3]at Hx3
       simp only []at b3i
       obtain⟨rfl,rfl,rfl⟩:=b3i
       simp only [LC,boL,boG,eW,Sx.L,Sx.row,hX3,hY3]at S hk3
       simp only [BS,LB,Nat.reduceLT,Nat.reduceEqDiff,Nat.reduceAdd,Int.reduceLT,zT,Tryz.FFbo891,r0,r55,r56,r57,aP,hlt,x0,y0,S.ld (b:=br) (o:=3) m0 rfl]
       have fvE3:Fl vE3:=(S.gown _ m0).1.fl
       have S2:=S
       have lF3:=H3.lt okh
       have lFx3:=Hx3.lt okh
       replace S:=S.base
       refine aD (aM rfl) (q:=4096) (ps:=[]) (by kernel_rfl) ?_
       simp only [BS,LB,cls,Nat.reduceLT,Nat.reduceEqDiff,Nat.reduceAdd,Nat.reducePow,Nat.reduceDiv,Nat.reduceMod,Nat.reduceLeDiff,Tryz.FFbo891,r0,r1,S.ld (b:=br) (o:=9) m0 rfl,S.ld (b:=xb3) (o:=1) m1 rfl]
       refine dC (cm (by exact XX) (by exact XW) (by decide) (by rfl)) S ?_;clear S;intro h bs S n_bs e_bs;simp only [LC,aY,bM,an,Nat.reduceMul,Nat.reduceAdd,Xs,Xt,Xm,Xw]at S
       simp only [BS,LB,cls,Nat.reduceLT,Nat.reduceEqDiff,Nat.reduceAdd,Nat.reducePow,Nat.reduceDiv,Nat.reduceMod,Nat.reduceLeDiff]
       have src:aO h 4 (.slice (some ⟨bs,0,none⟩) 1 1)=some (1,fd ⟨1,i,e,0⟩):=by simp only [aO];rw [S.lds (b:=bs) (o:=0) (n:=1*4) m0 (lbt rfl)];rfl
       replace S:=S.drop1
       have hτe:τ.ev.length<=1000000:=by
        have h1:=rR (A:=γ.arcs) (al:=fun _=>true) (pi:=fun v=>pis.getD v 0) (b:=i) (v:=v) (L.take j) (σ:=aV σ i v)
        rw [hτ,List.length_take]at h1
        have h2:(aV σ i v).ev.length=σ.ev.length+1:=by simp [aV]
        have:=hγ.many
        omega
       refine jK (S.grow (j:=0) (m:=1) (new:=fd ⟨1,i,e,0⟩) rfl XX XW (by decide) Tryz.n48 src rfl (by decide) rfl (by rw [aX nY];show(_+4)*_<=_;omega)) ?_
       clear S src;rintro h8 vE4 S
       simp only [LC]at S
       have fvE4:Fl vE4:=(S.gown _ m0).1.fl
       simp only [BS,LB,cls,Nat.reduceLT,Nat.reduceEqDiff,Nat.reduceAdd,Nat.reducePow,Nat.reduceDiv,Nat.reduceMod,Nat.reduceLeDiff,Tryz.FFbo891]
       refine dK (aI S (i:=0) rfl Tryz.s48 fvE4 (Xe (lbt rfl)) ono) ?_
       clear S;rintro h9 ⟨S,mo9⟩
       simp only [LC]at S
       have T:=S2.rebase S
       have hsd:(evB τ ⟨1,i,e,0⟩).sd=cC τ.sd i (τ.sd i):=by
        funext j
        unfold cC
        by_cases hj:j=i
        . rw [if_pos hj,hj];rfl
        . rw [if_neg hj];rfl
       have bo:=bo_fin A3 (i:=i) (x2:=X3 i) ⟨rfl,rfl,rfl⟩ (τ:=evB τ ⟨1,i,e,0⟩) hsd (vE2:=vE4) (F6:=F3 i) (h':=h9) (by
        rw [hBB3]
        simp only [eW,Sx.L,Sx.row,hX3,hY3,zY,Xc,boG,evB,zX,Xf,Xi,zQ]
        exact T) (by rw [hX3];exact H3.mo S.fr (fun c hc=>hk3 i c hc)) (by rw [hY3];exact Hx3.mo S.fr (fun c hc=>hk3 _ c hc)) (A3.ok i) (fun c hc=>.inl hc) (fun c hc=>⟨fun hm=>by
        simp only [eW,Sx.L,Sx.row,hX3,hY3,zY,Xc,boG,evB,zX,Xf,Xi,zQ]at hm
        exact(S.key_own hm).elim (fun h=>by have:=lF3 c hc;omega) (fun h=>hk3 i c hc h),(A3.apart i c hc).2⟩) (fun c hc hm=>by
        simp only [eW,Sx.L,Sx.row,hX3,hY3,zY,Xc,boG,evB,zX,Xf,Xi,zQ]at hm
        exact(S.key_own hm).elim (fun h=>by have:=lFx3 c hc;omega) (fun h=>hk3 _ c hc h))
       obtain⟨X4,F4,A4,e4,sub4⟩:=bo
       have f9:Mo (· ∈BB) h0 h9:=f3.trans T.fr (fun c hc=>(sub3 c hc).1)
       have gQ9:=gq.mo' f9 hBT
       have w56:(X4 i).b=xb3:=by rw [(e4 i).1,hX3]
       simp only [BS,LB,Nat.reduceLT,Nat.reduceEqDiff,Nat.reduceAdd,Tryz.FFbo891,r0,S.ld (b:=br) (o:=0) m0 rfl]
       refine step_ret (qh S.ok (hn.gr gQ9) hel) ?_
       rintro r hA ⟨gA,rfl⟩
       have okA:=gA.ok
       have ags:γ.arcs.getD e default=γ.arcs[e]:=by simp [zM,hel]
       obtain⟨a1,a2,a3⟩:=hγ.arcs _ (Xh hel)
       generalize γ.arcs[e]=x at ags a1 a2 a3
       have AA:=A4.gr gA
       replace S:=S.call gA
       have l4:=S.ld (b:=xb3) (o:=4) m1 rfl
       have l5:=S.ld (b:=xb3) (o:=5) m1 rfl
       have gx:=S.gown
       have SA:=S
       clear S
       have S:=Si okA
       simp only [BS,LB,Nat.reduceLT,Nat.reduceEqDiff,Tryz.FFbo891,cy]
       refine ag aF S ?_;clear S;intro h b9 S n_b9
       simp only [BS,LB,Nat.reduceLT,Nat.reduceEqDiff]
       refine aC (S.store (i:=0) rfl ?_ ?_ rfl rfl ?_ ono) ?_
       . exact(by exact Tryz.s87)
       . exact(by intro x e;cases e)
       . exact lbt rfl
       clear S;rintro h ⟨S,mo⟩;clear mo;simp only [LC,an,lay,Xz,XA,Nat.reduceAdd]at S
       have l4':=S.old l4 (fun h=>h)
       have l5':=S.old l5 (fun h=>h)
       simp only [BS,LB,Nat.reduceLT,Nat.reduceEqDiff]
       refine aD (aM rfl) (q:=0) (ps:=[(7,16),(7,14),(7,12)]) (by kernel_rfl) ?_
       simp only [BS,LB,cls,Nat.reduceLT,Nat.reduceEqDiff,Nat.reduceAdd,Nat.reducePow,Nat.reduceDiv,Nat.reduceMod,Nat.reduceLeDiff,Tryz.FFbo891,r0,r1,l4',S.lds (b:=b9) (o:=0) (n:=3) m0 (lbt rfl)]
       have k9:=(S.row (b:=b9) m0).lt S.ok
       refine df (xD (a:=x) S.ok) ?_
       intro hB1 gB1
       have z4:=bI okA l4
       have nA:=S.gr.n
       have p1:=aw gB1 (show xb3<_ by omega)
       have p2:=aw gB1 k9
       have p3:=aw gB1 (show xl3<_ from XH (fm okA (show hA.get xl3=some (.map el3 cl3)from(SA.own _ m2).2)) nA)
       replace S:=S.call gB1
       have l5'':=S.old l5 (fun h=>h)
       have hgl3:hB1.get xl3=some (.map el3 cl3):=S.gr.at (show hA.get xl3=some (.map el3 cl3)from(SA.own _ m2).2)
       obtain⟨gl3,ML3,hgl3'⟩:=Ho3.ml
       have lbl:=jD (x:=(v:Int)) XB Xk (z:=.int .i64 0) (by kernel_rfl) hgl3 ML3
       rw [hgl3' v,R3.2.1,Xb,zV]at lbl
       have r31:=R3.2.2.1
       have lenO:=Xq bz (XE (I3.sv i).len n2)
       have wmx:=kD
       have wsum:aq .i64 ((m5:Int)+(x.w:Int))=((m5+x.w:Nat):Int):=by rw [wrap64]<;>omega
       simp only [BS,LB,cls,Nat.reduceLT,Nat.reduceEqDiff,Nat.reduceAdd,Nat.reducePow,Nat.reduceDiv,Nat.reduceMod,Nat.reduceLeDiff,Tryz.FFbo891,r1,r4,l5'',lbl,wsum,S.ld (b:=b9) (o:=2) m0 rfl]
       have n03:=f3.n
       have gqn:=gq.n
       have hnb: ∀c∈boB br (ptrTo bp) s t vPi X4 F4 vE4 (evB τ ⟨1,i,e,0⟩),hq.n<=c/\(c∈BB\/h0.n<=c):=fun c hc=>by
        rcases sub4 c hc with h1|h1
        . rw [hBB3]at h1
          have h2:=(sub3 c h1).1
          exact⟨h2.elim (hBT c) (fun h=>by omega),h2⟩
        . exact⟨by omega,.inr (by omega)⟩
       have gAB:=gA.trans S.gr
       have n9:=T.fr.n
       have nAB:=gAB.n
       have hvl: ∀c∈boB br (ptrTo bp) s t vPi X4 F4 vE4 (evB τ ⟨1,i,e,0⟩),¬av vL c:=fun c hc hb=>by
        rcases sub4 c hc with h1|h1
        . rw [hBB3]at h1
          exact(sub3 c h1).2 hb
        . have:=sL.blt okh hb
          omega
       have gQB:=gQ9.trans gAB
       have hft:ftB i x<γ.nodes:=by unfold ftB;split<;>assumption
       have rc:=pb S.ok (AA.gr S.gr) (sP.gr gQB) lP (fun c hc hm=>by have h1:=sP.blt gq.ok0 hc;have h2:=(hnb c hm).1;omega) n2 (evB_I I3) (i:=i) (v:=ftB i x) (lab:=m5+x.w) (p:=e::(τ.sd i).P v) hft (by omega)
       rw [w56]at rc
       refine dp rc ?_
       rintro r hC ⟨fC,X5,F5,A5,e5,sub5⟩
       simp only [BS,LB,Nat.reduceLT,Nat.reduceEqDiff,Nat.reduceAdd,r57,w]
       refine⟨by simp only [bH,bO,bg,bV,bD,ne_eq,not_false_eq_true,bU,cu,bJ,bF,cB,dt,aS,Nat.reduceLT,Nat.reduceEqDiff,reduceIte,Xj,r0,r1,r4,r55,r56,r57,ae,note_look,aB p1,aG p1,aB p2,aG p2,aB p3,aG p3],?_⟩
       have es:co γ.arcs (fun _=>true) (fun v=>pis.getD v 0) i v τ e=aU (fun v=>pis.getD v 0) i (evB τ ⟨1,i,e,0⟩) (ftB i x) (m5+x.w) (e::(τ.sd i).P v):=by
        have:je τ i v=m5:=by unfold je;rw [R3.2.1];rfl
        unfold co
        rw [if_pos rfl,ags,this]
       have ef:(L.take (j+1)).foldl (co γ.arcs (fun _=>true) (fun v=>pis.getD v 0) i v) (aV σ i v)=co γ.arcs (fun _=>true) (fun v=>pis.getD v 0) i v τ e:=by
        rw [etk,List.foldl_append,hτ];rfl
       obtain⟨I6,K6⟩:=rH n2 (fun a ha=>hγ.arcs a ha) I3 R3 hel hev'
       refine ih (j+1) _ _ (by omega) ⟨by omega,X5,F5,vE4,by rw [ef,es];exact A5,by rw [ef];exact I6,by rw [ef];exact R3.ke K6,fun q=>⟨(e5 q).1.trans ((e4 q).1.trans (e3 q).1),(e5 q).2.1.trans ((e4 q).2.1.trans (e3 q).2.1),(e5 q).2.2.trans ((e4 q).2.2.trans (e3 q).2.2)⟩,?_,?_,?_,by simp [aa,r0,ae],by simp [aa,r1,ae],by simp [aa,r4],by simp [aa,r55],by simp [aa,r56],by simp [aa]⟩
       . exact(f9.trans (gAB.fr (M:=NoM)) (fun _ h=>h.elim)).trans fC (fun c hc=>(hnb c hc).2)
       . intro c hc
         rw [ef,es]at hc
         rcases sub5 c hc with h1|h1
         . exact⟨(hnb c h1).2,hvl c h1⟩
         . refine⟨.inr (by omega),fun hb=>?_⟩
           have:=sL.blt okh hb
           omega
       . exact((sL.mo T.fr (fun c hc hm=>(sub3 c hm).2 hc)).gr gAB).mo fC (fun c hc hm=>hvl c hm hc)
     . have:j=L.length:=by omega
       subst this
       rw [XN]at A3 sub3
       simp only [BS,LB,Nat.reduceLT,r56,r57,aP,hlt]
       exact⟨f3,X3,F3,vE3,A3,e3,fun c hc=>(sub3 c hc).1⟩
   . exact⟨Xg _,X2,F2,vE',A6,I5,R5,e2,f6,fun c hc=>⟨by rw [<-hBB];exact sub2 c hc,fun hb=>by have h1:=nL c hb;have h2:=lB5 c hc;omega⟩,sL,by simp [aa,cD,ae],by simp [aa,cD,ae],by simp [aa],by simp [aa],by simp [aa],by simp [aa]⟩
end Go.Ab
end
section
namespace Go.Ab
section
variable{A:List Arc}{N r:Nat}{al:Nat->Bool}{pi:Nat->Int}{i:Bool}{x:Sd}
theorem SvB.ids(h:SvB A N r al pi i x): ∀(n:Nat) {v:Nat},(x.P v).length<=n->(x.L v).isSome=true-> ∀e∈x.P v,e<A.length:=by
 intro n
 induction n with
 | zero=>
   intro v hp _ e he
   rw [List.length_eq_zero_iff.1 (Nat.le_zero.1 hp)]at he
   cases he
 | succ n ih=>
   intro v hp hl e he
   obtain⟨l,hl⟩:=Option.isSome_iff_exists.1 hl
   rcases h.path v l hl with⟨_,p0,_⟩|⟨a,m,h1,_,_,_,h5,h6,_⟩
   . rw [p0]at he;cases he
   . rw [h5]at hp he
     rcases List.mem_cons.1 he with rfl|he
     . exact h1
     . exact ih (by rw [XQ]at hp;omega) (by rw [h6];rfl) e he
end
end Go.Ab

end

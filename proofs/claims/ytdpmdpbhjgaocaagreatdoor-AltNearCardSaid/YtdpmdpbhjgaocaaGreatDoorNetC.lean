/- Nets, cells, flags: what the functions do (part 3). -/
import Derived.Test.YtdpmdpbhjgaocaaGreatDoorNetB
open Go.Ab.Tryz renaming abEnv->xW,s99->yG,s158->yK,u40->yP,e3E->yQ,s3->yS,e57E->yW,s59->yX,u47->yY,a99->yZ
open Nat renaming le_trans->xX,lt_of_succ_le->ye,zero_add->yo,zero_mul->yr,mul_le_mul_right->yw,mul_one->yy,one_mul->yz,le_refl->yD,zero_le->yE,succ_mul->yV
open List renaming getD_eq_getElem?_getD->xY,getElem?_eq_getElem->xZ,mem_append_left->ya,range->yb,flatMap_eq_foldl->yc,mem_append_right->yd,mem_cons_of_mem->yf,take->yg,drop->yh,length_map->yj,getElem?_eq_none->yk,getElem_mem->yl,getElem?_map->ym,replicate->yn,map_eq_flatMap->yp,length_range->yq,drop_zero->yt,mem_of_getElem?->yu,all_cons->yx,all_nil->yA,ext_getElem?->yC,length_singleton->yH,length_set->yI,flatMap_append->yJ,length_append->yL,getElem?_set->yM,flatMap_cons->yN,drop_eq_getElem_cons->yO,take_of_length_le->yR,take_succ_cons->yT
open Bool renaming and_true->yi
open Option renaming getD_some->yv,getD_none->yF,isSome_none->yU
open Int renaming cast_ofNat_Int->yB
set_option maxHeartbeats 4000000
set_option linter.defProp false
set_option linter.unusedVariables false
set_option linter.unusedSimpArgs false
section
namespace Go.Ab
open Go.Proofs
set_option maxRecDepth 10000
open Tryz in
def Tryz.FFf3160:=aj a1<|aj s1<|aj z1<|aj n1<|aj u2<|aj a2<|aj s2<|aj z2<|aj i2<|aj u3<|aj a3<|aj s3<|aj z3<|aj i3<|aj u4<|aj a4<|aj s4<|aj z4<|aj n4<|aj u5<|aj a5<|aj s5<|aj z5<|aj i5<|aj a30<|aj s30<|aj z30<|aj i30<|aj n30<|aj p30<|aj ff30<|aj d30<|aj u32<|aj a32<|aj s32<|aj z32<|aj q32<|aj i32<|aj n32<|aj u40<|aj a40<|aj s40<|aj z40<|aj q40<|aj n40<|aj a59<|aj s59<|aj z59<|aj i59<|aj n59<|aj p59<|aj ff59<|aj d59<|aj u146<|aj a146<|aj s146<|aj z146<|aj q146<|aj n146<|aj a148<|aj s148<|aj z148<|aj i148<|aj n148<|aj p148<|aj ff148<|aj d148<|aj a149<|aj s149<|aj z149<|aj n149<|aj a257<|aj s257<|aj z257<|n257
def lC(A:List Arc)(f:Arc->Nat)(ids:List Nat):List (List Value):=ids.map fun(id:Nat)=>[.int .i64 id,.agg ⟨cI ⟨0,f (A.getD id default),(A.getD id default).w⟩⟩]
theorem arcs_ok'{h0:Hp}(ok:h0.t.Sized h0.n){p vl ve:Value}(f1:Fl p)(f2:Fl vl)(f3:Fl ve):Ret xW 133 [p,vl,ve] h0 fun v h'=>Gr h0 h'/\ ∃b1 b2 b3,v=.func (.func 160) #[] #[ptrTo b1,ptrTo b2,ptrTo b3]/\h0.n<=b1/\h0.n<=b2/\h0.n<=b3/\h'.load b1 0 1=some [vl]/\h'.load b2 0 1=some [p]/\h'.load b3 0 1=some [ve]:=by
 have S:=Si ok
 refine ac (n:=8) (rs:=[.tmp 6]) rfl Tryz.e133 rfl rfl rfl (lbt rfl) ?_
 simp only [BS,Nat.reduceLT]
 refine ae (co (by assumption)) S ?_;clear S;intro h b2 S n_b2
 simp only [BS,Nat.reduceLT,Nat.reduceEqDiff,if_false]
 refine ae (co (by assumption)) S ?_;clear S;intro h b1 S n_b1
 simp only [BS,Nat.reduceLT,Nat.reduceEqDiff,if_false]
 refine ae (co (by assumption)) S ?_;clear S;intro h b3 S n_b3
 simp only [BS,LB,ab,Nat.reduceLT,Nat.reduceEqDiff]
 exact⟨S.gr,b1,b2,b3,rfl,n_b1,n_b2,n_b3,S.ld m1 rfl,S.ld m2 rfl,S.ld m0 rfl⟩
theorem arcs_it{hq h0:Hp}(okq:hq.t.Sized hq.n)(ok0:h0.t.Sized h0.n)(kq:gU hq h0)(nq:hq.n<=h0.n){p vl:Value}{γ:Gra}{nb b1 b2 b3:Nat}(hn:bT hq nb p γ){ids:List Nat}(hl:aA h0 1 bW vl ids)(hids: ∀id∈ids,id<γ.arcs.length)(hlen:ids.length<1000){g:FuncId}{f:Arc->Nat}(hk:KeyF xW g f)
 (e1:h0.load b1 0 1=some [vl]) (e2:h0.load b2 0 1=some [p]) (e3:h0.load b3 0 1=some [.func (.func g) #[] #[]]):
 pL xW 160 [] [ptrTo b1,ptrTo b2,ptrTo b3] h0 (fun c=>c=b1\/c=b2\/c=b3\/av vl c\/c<hq.n) (lC γ.arcs f ids):=by
 intro lb J Z hz Y h F s hj
 refine enter (n:=32) (rs:=[]) rfl Tryz.e160 rfl rfl rfl (lbt rfl) ?_
 have l1:=s.load ok0 e1 (.inl rfl)
 simp only [BS,LB,Nat.reduceLT,Tryz.FFf3160,l1,hl.lenq]
 refine aZ (fun(i:Nat) ρ h=>i<=ids.length/\ ∃F,ItS h0 (fun c=>c=b1\/c=b2\/c=b3\/av vl c\/c<hq.n) h F/\J i h F/\ρ 0=.func (.yield lb) #[] #[]/\ρ 1=ptrTo b1/\ρ 2=ptrTo b2/\ρ 3=ptrTo b3/\ρ 9=vl/\ρ 10=.int .i64 ids.length/\ρ 11=.int .i64 i) (fun i=>ids.length-i) ?_ 0 _ _ ?_
 . clear l1
   intro i ih ρ h ⟨hi,F,s,hj,r0,r1,r2,r3,r9,r10,r11⟩
   by_cases hlt:i<ids.length
   . obtain⟨c,o,hidx,hld⟩:=(s.sl ok0 hl (fun b h=>.inr (.inr (.inr (.inl h))))).ix (kd:=.i64) fH hlt
     have l2:=s.load ok0 e2 (.inr (.inl rfl))
     have l3:=s.load ok0 e3 (.inr (.inr (.inl rfl)))
     have hid:=hids _ (yl hlt)
     have nt:bT h nb p γ:=hn.keep okq (s.keep kq nq (fun c hc=>.inr (.inr (.inr (.inr hc)))))
     have w:au .i64 ((i:Int)+1)=((i+1:Nat):Int):=by rw [wrap64]<;>omega
     have S:=Si s.ok
     simp only [BS,LB,Nat.reduceLT,Nat.reduceEqDiff,Tryz.FFf3160,r2,r9,r10,r11,aI,hlt,hidx,hld,bW,l2]
     refine step_ret (oF S.ok nt hid) ?_
     rintro v h2 ⟨g1,rfl⟩
     replace S:=S.call g1;clear g1
     simp only [BS,LB,Nat.reduceLT,Nat.reduceEqDiff,Tryz.FFf3160]
     refine ae aw S ?_;clear S;intro h b7 S n_b7
     simp only [BS,LB,Nat.reduceLT,Nat.reduceEqDiff,cI]
     refine az (S.store (i:=0) rfl ?_ ?_ rfl rfl ?_ ono) ?_
     . exact(by exact yX)
     . exact(by intro x e;cases e)
     . exact lbt rfl
     clear S;rintro h ⟨S,mo⟩;clear mo;simp only [LC,ag,lay,yg,yh,Nat.reduceAdd]at S
     simp only [BS,LB,Nat.reduceLT,Nat.reduceEqDiff]
     refine aC (aH rfl) (q:=0) (ps:=[(4,6)]) (by kernel_rfl) ?_
     simp only [BS,LB,cls,Nat.reduceLT,Nat.reduceEqDiff,Nat.reduceAdd,Nat.reducePow,Nat.reduceDiv,Nat.reduceMod,Nat.reduceLeDiff,Tryz.FFf3160,r0,r3,S.old l3 (fun h=>h),S.lds (b:=b7) (o:=0) (n:=3) m0 (lbt rfl)]
     have hlt7:=(S.row (b:=b7) m0).lt S.ok
     refine cE (hk _ γ.arcs[ids[i]] S.ok) ?_
     intro h' g1
     have lv:=ay g1 hlt7
     replace S:=S.call g1;clear g1
     simp only [BS,LB,cls,Nat.reduceLT,Nat.reduceEqDiff,Nat.reduceAdd,Nat.reducePow,Nat.reduceDiv,Nat.reduceMod,Nat.reduceLeDiff,Tryz.FFf3160,S.ld (b:=b7) (o:=2) m0 rfl]
     have gd:γ.arcs.getD ids[i] default=γ.arcs[ids[i]]:=by simp [xY,hid]
     have hx:(lC γ.arcs f ids)[i]? =some [.int .i64 (ids[i]:Nat),.agg ⟨[.int .i64 0,.int .i64 (f γ.arcs[ids[i]]:Nat),.int .i64 (γ.arcs[ids[i]].w:Nat)]⟩]:=by
      unfold lC
      rw [ym,xZ hlt]
      simp only [Option.map_some,gd]
      rfl
     refine dn_yield hz Y (s.gr S.gr) (Y.gr _ _ _ _ hj S.gr) (j:=i) hx ?_ ?_
     . intro h' F' a s' _ _
       simp only [BS,LB,cls,Nat.reduceLT,Nat.reduceEqDiff,Nat.reduceAdd,Nat.reducePow,Nat.reduceDiv,Nat.reduceMod,Nat.reduceLeDiff,r11,w]
       refine⟨by simp only [aX,bu,aS,bz,aT,ne_eq,not_false_eq_true,bF,bJ,bA,aY,bK,cD,aK,Nat.reduceLT,Nat.reduceEqDiff,reduceIte,yi,r0,r1,r2,r3,ah,aP lv,aN lv],?_⟩
       exact ih (i+1) _ _ (by omega) ⟨by omega,F',s',a,by simp [aa,r0],by simp [aa,r1,ah],by simp [aa,r2,ah],by simp [aa,r3,ah],by simp [aa,r9],by simp [aa,r10],by simp [aa]⟩
     . intro h' a _
       simp only [BS,LB,cls,Nat.reduceLT,Nat.reduceEqDiff,Nat.reduceAdd,Nat.reducePow,Nat.reduceDiv,Nat.reduceMod,Nat.reduceLeDiff]
       refine⟨by simp only [aX,bu,aS,bz,aT,ne_eq,not_false_eq_true,bF,bJ,bA,aY,bK,cD,aK,Nat.reduceLT,Nat.reduceEqDiff,reduceIte,yi,r0,r1,r2,r3,ah,aP lv,aN lv],?_⟩
       exact iw rfl ⟨rfl,.inr (.inl ⟨_,rfl,a⟩)⟩
   . simp only [BS,LB,Nat.reduceLT,r10,r11,aI,hlt]
     have:i=ids.length:=by omega
     subst this
     exact dv (dy ⟨rfl,_,rfl,rfl,.inl ⟨_,F,rfl,by simpa [lC]using hj⟩⟩)
 . exact⟨by omega,F,s,hj,by simp [aa,ce],by simp [aa,ce,ah],by simp [aa,ce,ah],by simp [aa,ce,ah],by simp [aa],by simp [aa],by simp [aa]⟩
end Go.Ab
end
section
namespace Go.Ab
section
variable{M:Nat->Prop}{h0 h h':Hp}{L L':List (Nat×Ob)}{G G':List GL}{Fh:List Nat}
theorem St.baseF(S:St M h0 h L G)(Fh:List Nat):St (fun c=>c∈keys L G\/c∈Fh) h h L G:=
 ⟨Mo.refl S.ok,fun p hp=>⟨.inr (.inl (ie hp)),(S.own p hp).2⟩,fun p hp=>⟨(S.gown p hp).1,fun b hb=>.inr (.inl (fi hp hb))⟩,S.apart⟩
theorem St.rebaseF(S:St M h0 h L G)(hF: ∀c∈Fh,h0.n<=c\/M c)(T:St (fun c=>c∈keys L G\/c∈Fh) h h' L' G'):St M h0 h' L' G':=by
 have hk: ∀b,h.n<=b\/(b∈keys L G\/b∈Fh)->h0.n<=b\/M b:=fun b hb=>hb.elim (fun hb=>.inl (xX S.fr.n hb)) (fun hb=>hb.elim S.key_own (hF b))
 exact⟨S.fr.trans T.fr fun b hb=>(hb.elim S.key_own (hF b)).symm,fun p hp=>⟨hk _ (T.own p hp).1,(T.own p hp).2⟩,fun p hp=>⟨(T.gown p hp).1,fun b hb=>hk b ((T.gown p hp).2 b hb)⟩,T.apart⟩
theorem St.callF(S:St M h0 h L G){i b:Nat}{o o':Ob}(hi:L[i]? =some (b,o))(f:Mo (fun c=>c∈Fh\/c=b) h h')(hF: ∀c∈Fh,(M c\/h0.n<=c)/\c∉keys L G)(ho:Has h' b o'):St M h0 h' (L.set i (b,o')) G:=by
 have hb:=S.own _ (yu hi)
 have hkey:(keys L G)[i]? =some b:=lS hi
 refine⟨S.fr.trans f (fun c hc=>by rcases hc with hc|rfl;exact(hF c hc).1;exact hb.1.symm),fun p hp=>?_,fun p hp=>⟨(S.gown p hp).1.of_get fun c hc=>?_,(S.gown p hp).2⟩,?_⟩
 . rcases jK hp with rfl|⟨j,hj,hp⟩
   . exact⟨hb.1,ho⟩
   . have h1:=S.own p (yu hp)
     refine⟨h1.1,h1.2.of_get (f.get _ (h1.2.lt S.ok) fun e=>?_)⟩
     rcases e with e|e
     . exact(hF _ e).2 (ie (yu hp))
     . apply hj
       have h2:(keys L G)[j]? =some b:=by rw [lS hp];rw [e]
       exact mJ S.apart h2 hkey
 . refine f.get c ((S.gown p hp).1.lt S.ok hc) fun e=>?_
   rcases e with e|e
   . exact(hF _ e).2 (fi hp hc)
   . subst e
     have h1:=S.apart
     unfold keys at h1
     rw [List.nodup_append]at h1
     exact h1.2.2 c (List.mem_map.2 ⟨_,yu hi,rfl⟩) c (List.mem_filterMap.2 ⟨p,hp,hc⟩) rfl
 . have:keys (L.set i (b,o')) G=keys L G:=by
    unfold keys
    congr 1
    rw [List.map_set]
    refine yC fun j=>?_
    rw [yM]
    split
    . rename_i e;subst e
      have:=(List.getElem?_eq_some_iff.1 hi).1
      rw [if_pos (by simpa using this),ym,hi];rfl
    . rfl
   rw [this];exact S.apart
theorem St.stepF(S:St M h0 h L G)(f:Mo (· ∈Fh) h h')(hF: ∀c∈Fh,(M c\/h0.n<=c)/\c∉keys L G):St M h0 h' L G:=
 S.step f (fun c hc=>(hF c hc).1) (fun c hc hm=>(hF c hm).2 hc)
theorem St.permL(S:St M h0 h L G)(p:L'.Perm L):St M h0 h L' G:=
 ⟨S.fr,fun x hx=>S.own x (p.mem_iff.1 hx),S.gown,by
  have:(keys L' G).Perm (keys L G):=(p.map Prod.fst).append_right _
  exact this.nodup_iff.2 S.apart⟩
end
theorem St.mono{M M':Nat->Prop}{h0 h:Hp}{L:List (Nat×Ob)}{G:List GL}(S:St M h0 h L G)(hm: ∀b,M b->M' b):St M' h0 h L G:=
 ⟨S.fr.mono hm,fun p hp=>⟨(S.own p hp).1.imp (fun h=>h) (hm _),(S.own p hp).2⟩,fun p hp=>⟨(S.gown p hp).1,fun b hb=>((S.gown p hp).2 b hb).imp (fun h=>h) (hm _)⟩,S.apart⟩
theorem Dj.exm{B:List Arc}{s N:Nat}{O:List Nat}{D:Nat->Nat}{K:Nat->Option Int}{ex ex':Arc->Prop}(d:Dj B s N O D K ex)(h: ∀a∈B,ex a->ex' a):Dj B s N O D K ex':=
 ⟨d.i1,d.i2,d.i2f,d.i3,fun a ha hs hx=>d.i4 a ha hs (fun hh=>hx (h a ha hh)),d.i5,d.nd,d.lt⟩
def noteSl:Value->Option Tch
 | .map (some r)=>some (.blk r)
 | .slice (some a) _ _=>some (.blk a.block)
 |_=>none
theorem uf{ρ:Operand->Value}{b:Bool}{x y:Operand}{ts:Array TypeId}{h h':Hp}:cb ρ b (.call ⟨.builtin .append,#[x,y],ts⟩) h h'=noteSl (ρ x):=by
 simp only [cb,dm,iW,dZ,touch,cond_false]
 cases ρ x<;>first|rfl|(rename_i x;cases x<;>rfl)|(rename_i x _ _;cases x<;>rfl)
theorem pair_x{x:Option Tch}:iP x none=true:=by
 cases x with
 |none=>rfl
 |some b=>cases b<;>rfl
theorem entry_nl{i:Nat}:bN i []=none:=rfl
end Go.Ab

end
section
namespace Go.Ab
open Go.Proofs
set_option maxRecDepth 10000
open Tryz in
def Tryz.FFf4134:=aj a1<|aj s1<|aj z1<|aj n1<|aj u2<|aj a2<|aj s2<|aj z2<|aj i2<|aj u3<|aj a3<|aj s3<|aj z3<|aj i3<|aj u4<|aj a4<|aj s4<|aj z4<|aj n4<|aj u5<|aj a5<|aj s5<|aj z5<|aj i5<|aj u25<|aj a25<|aj s25<|aj z25<|aj q25<|aj n25<|aj u40<|aj a40<|aj s40<|aj z40<|aj q40<|aj n40<|aj u44<|aj a44<|aj s44<|aj z44<|aj i44<|aj u153<|aj a153<|aj s153<|aj z153<|aj n153<|aj a158<|aj s158<|aj z158<|aj i158<|aj n158<|aj p158<|aj ff158<|aj d158<|aj u202<|aj a202<|aj s202<|aj z202<|aj q202<|aj i202<|aj n202<|aj u203<|aj a203<|aj s203<|aj z203<|aj q203<|aj i203<|aj n203<|aj a208<|aj s208<|aj z208<|aj i208<|aj n208<|aj p208<|aj ff208<|aj d208<|aj a248<|aj s248<|aj z248<|aj i248<|aj n248<|aj p248<|aj ff248<|aj d248<|aj a250<|aj s250<|aj z250<|aj i250<|aj n250<|aj p250<|aj ff250<|d250
theorem ints_set(l:List Int)(i:Nat)(x:Int):(ints l).set i (.int .i64 x)=ints (l.set i x):=by
 have e4: ∀l:List Int,ints l=l.map fun x=>Value.int .i64 x:=fun l=>by
  unfold ints;rw [yc,yp,yc];rfl
 rw [e4,e4,List.map_set]
theorem reach_ok{h0:Hp}(ok:h0.t.Sized h0.n){br ba bc c N v arc far:Nat}{p vD vO:Value}{F:List Nat}{K:Nat->Option Int}{O:List Nat}{es:List (Value×Value×Nat)}{f:Int->Option Value}{aL:List Int}
 (R:Row h0 br [p,vD,.slice (some ⟨ba,0,none⟩) N N,vO,.map (some bc)] 1) (H:cy h0 F p N K) (hN:N<=1000) (hc:h0.get bc=some (.map es c)) (MI:c8 es c f) (CF:ClF O f) (hA:Row h0 ba (ints aL) 1) (lA:aL.length=N) (hv:v<N)
 (d1:ba∉F) (d2:br∉F) (d3:br≠ba):
 Ret xW 134 [ptrTo br,.int .i64 v,.int .i64 arc,.int .i64 far] h0 fun _ h'=>Mo (fun c=>c∈F\/c=ba) h0 h'/\ ∃F' aL',cy h' F' p N (gO O K v far)/\(∀b∈F',b∈F\/h0.n<=b)/\Row h' ba (ints aL') 1/\aL'.length=N/\((gO O K v far=K/\aL'=aL)\/(v∉O/\gO O K v far=ca K v (some (far:Int))/\aL'=aL.set v arc)):=by
 have S:=Si ok
 have hA0:=hA.lt ok
 have l0:=R.load1 (o:=0) rfl
 have l4:=R.load1 (o:=4) rfl
 have l2:=R.load1 (o:=2) rfl
 have pp: ∃b,p=ptrTo b:=by obtain⟨b,_,_,e,_⟩:=H.ex;exact⟨b,e⟩
 obtain⟨bp,rfl⟩:=pp
 refine ac (n:=59) (rs:=[]) rfl Tryz.e134 rfl rfl rfl (lbt rfl) ?_
 simp only [BS,LB,Nat.reduceLT,Nat.reduceEqDiff,Tryz.FFf4134,l0]
 refine ar (rI S.ok H) ?_
 intro h g;replace S:=S.call g;clear g
 replace hc:h.get bc=some (.map es c):=S.gr.at hc
 have H1:=H.gr S.gr
 have lk:=pz (x:=(v:Int)) Tryz.u153 Tryz.u3 (z:=.int .i64 0) (by kernel_rfl) hc MI
 rw [CF v]at lk
 replace l0:=S.old l0 (fun h=>h)
 replace l4:=S.old l4 (fun h=>h)
 replace l2:=S.old l2 (fun h=>h)
 replace hA:Row h ba (ints aL) 1:=hA.gr S.gr
 have R1:=R.gr S.gr
 have gg:=S.gr
 by_cases hO:v∈O
 . rw [if_pos hO,yv]at lk
   simp only [BS,LB,Nat.reduceLT,Nat.reduceEqDiff,Int.reduceLT,Tryz.FFf4134,l4,lk]
   exact⟨gg.fr,F,aL,by unfold gO;rw [if_pos hO];exact H1,fun b hb=>.inl hb,hA,lA,.inl ⟨by unfold gO;rw [if_pos hO],rfl⟩⟩
 . rw [if_neg hO,yF]at lk
   have hba:=hA.lt gg.ok
   cases hk:K v with
   | none=>
     have rk:gO O K v far=ca K v (some (far:Int)):=by unfold gO;rw [if_neg hO,hk]
     simp only [BS,LB,Nat.reduceLT,Nat.reduceEqDiff,Int.reduceLT,Tryz.FFf4134,l0,l4,lk,yF,yU]
     refine step_ret (mP gg.ok H1 hv hN hk) ?_
     rintro r h2 ⟨f2,F',H2,hF'⟩
     have ha2:Row h2 ba (ints aL) 1:=f2.has (o:=.row _ 1) hA d1
     have r2:Row h2 br [ptrTo bp,vD,.slice (some ⟨ba,0,none⟩) N N,vO,.map (some bc)] 1:=f2.has (o:=.row _ 1) R1 d2
     have l2':=r2.load1 (o:=2) rfl
     have S:=St.init1 f2.ok (o:=.row _ 1) ha2
     simp only [BS,LB,Nat.reduceLT,Nat.reduceEqDiff,Nat.reduceAdd,Tryz.FFf4134,l2',hv]
     refine az (aB S (i:=0) rfl yS bw (by rw [dI,lA];exact hv) ono) ?_
     clear S;rintro h3 ⟨S,mo⟩
     simp only [LC]at S
     rw [ints_set]at S
     simp only [BS]
     refine⟨(gg.fr.trans (f2.mono (fun c hc=>.inl hc)) (fun c hc=>.inl hc):Mo (fun c=>c∈F\/c=ba) h0 h2).trans mo (fun c hc=>.inl (.inr hc)),F',aL.set v arc,by rw [rk];exact H2.mo mo (fun b hb e=>by subst e;rcases hF' b hb with h|h;exact d1 h;omega),fun b hb=>(hF' b hb).imp (fun h=>h) (fun h=>xX gg.n h),S.row m0,by rw [yI];exact lA,.inr ⟨hO,rk,rfl⟩⟩
   | some k=>
     by_cases hle:k<=(far:Int)
     . have rk:gO O K v far=K:=by unfold gO;rw [if_neg hO,hk];simp only [];rw [if_pos hle]
       simp only [BS,LB,Nat.reduceLT,Nat.reduceEqDiff,Int.reduceLT,Tryz.FFf4134,l4,lk,hle,yv]
       exact⟨gg.fr,F,aL,by rw [rk];exact H1,fun b hb=>.inl hb,hA,lA,.inl ⟨rk,rfl⟩⟩
     . have rk:gO O K v far=ca K v (some (far:Int)):=by unfold gO;rw [if_neg hO,hk];simp only [];rw [if_neg hle]
       simp only [BS,LB,Nat.reduceLT,Nat.reduceEqDiff,Int.reduceLT,Tryz.FFf4134,l0,l4,lk,hle,yv]
       refine step_ret (oD gg.ok H1 hN hk (by omega)) ?_
       rintro r h2 ⟨f2,H2⟩
       have ha2:Row h2 ba (ints aL) 1:=f2.has (o:=.row _ 1) hA d1
       have r2:Row h2 br [ptrTo bp,vD,.slice (some ⟨ba,0,none⟩) N N,vO,.map (some bc)] 1:=f2.has (o:=.row _ 1) R1 d2
       have l2':=r2.load1 (o:=2) rfl
       have S:=St.init1 f2.ok (o:=.row _ 1) ha2
       simp only [BS,LB,Nat.reduceLT,Nat.reduceEqDiff,Nat.reduceAdd,Tryz.FFf4134,l2',hv]
       refine az (aB S (i:=0) rfl yS bw (by rw [dI,lA];exact hv) ono) ?_
       clear S;rintro h3 ⟨S,mo⟩
       simp only [LC]at S
       rw [ints_set]at S
       simp only [BS]
       refine⟨(gg.fr.trans (f2.mono (fun c hc=>.inl hc)) (fun c hc=>.inl hc):Mo (fun c=>c∈F\/c=ba) h0 h2).trans mo (fun c hc=>.inl (.inr hc)),F,aL.set v arc,by rw [rk];exact H2.mo mo (fun b hb e=>by subst e;exact d1 hb),fun b hb=>.inl hb,S.row m0,by rw [yI];exact lA,.inr ⟨hO,rk,rfl⟩⟩
open Tryz in
def Tryz.FFf587:=aj a1<|aj s1<|aj z1<|aj n1<|aj u2<|aj a2<|aj s2<|aj z2<|aj i2<|aj u3<|aj a3<|aj s3<|aj z3<|aj i3<|aj u4<|aj a4<|aj s4<|aj z4<|aj n4<|aj u5<|aj a5<|aj s5<|aj z5<|aj i5<|aj u6<|aj a6<|aj s6<|aj z6<|aj i6<|aj a7<|aj s7<|aj z7<|aj i7<|aj n7<|aj p7<|aj ff7<|aj d7<|aj a8<|aj s8<|aj z8<|aj i8<|aj n8<|aj p8<|aj ff8<|aj d8<|aj u9<|aj a9<|aj s9<|aj z9<|aj n9<|aj u10<|aj a10<|aj s10<|aj z10<|aj n10<|aj u11<|aj a11<|aj s11<|aj z11<|aj n11<|aj u12<|aj a12<|aj s12<|aj z12<|aj i12<|aj a13<|aj s13<|aj z13<|aj i13<|aj n13<|aj p13<|aj ff13<|aj d13<|aj a14<|aj s14<|aj z14<|aj i14<|aj n14<|aj p14<|aj ff14<|aj d14<|aj u15<|aj a15<|aj s15<|aj z15<|aj q15<|aj i15<|aj n15<|aj u16<|aj a16<|aj s16<|aj z16<|aj q16<|aj i16<|aj n16<|aj u17<|aj a17<|aj s17<|aj z17<|aj q17<|aj i17<|aj n17<|aj u25<|aj a25<|aj s25<|aj z25<|aj q25<|aj n25<|aj a30<|aj s30<|aj z30<|aj i30<|aj n30<|aj p30<|aj ff30<|aj d30<|aj u32<|aj a32<|aj s32<|aj z32<|aj q32<|aj i32<|aj n32<|aj u40<|aj a40<|aj s40<|aj z40<|aj q40<|aj n40<|aj a41<|aj s41<|aj z41<|aj n41<|aj u44<|aj a44<|aj s44<|aj z44<|aj i44<|aj a59<|aj s59<|aj z59<|aj i59<|aj n59<|aj p59<|aj ff59<|aj d59<|aj a101<|aj s101<|aj z101<|aj n101<|aj a102<|aj s102<|aj z102<|aj n102<|aj u146<|aj a146<|aj s146<|aj z146<|aj q146<|aj n146<|aj a148<|aj s148<|aj z148<|aj i148<|aj n148<|aj p148<|aj ff148<|aj d148<|aj a149<|aj s149<|aj z149<|aj n149<|aj u153<|aj a153<|aj s153<|aj z153<|aj n153<|aj a158<|aj s158<|aj z158<|aj i158<|aj n158<|aj p158<|aj ff158<|aj d158<|aj u197<|aj a197<|aj s197<|aj z197<|aj i197<|aj u202<|aj a202<|aj s202<|aj z202<|aj q202<|aj i202<|aj n202<|aj u203<|aj a203<|aj s203<|aj z203<|aj q203<|aj i203<|aj n203<|aj a208<|aj s208<|aj z208<|aj i208<|aj n208<|aj p208<|aj ff208<|aj d208<|aj a213<|aj s213<|aj z213<|aj n213<|aj a248<|aj s248<|aj z248<|aj i248<|aj n248<|aj p248<|aj ff248<|aj d248<|aj a250<|aj s250<|aj z250<|aj i250<|aj n250<|aj p250<|aj ff250<|aj d250<|aj u263<|aj a263<|aj s263<|aj z263<|aj i263<|aj a274<|aj s274<|aj z274<|aj i274<|aj n274<|aj p274<|aj ff274<|aj d274<|aj u275<|aj a275<|aj s275<|aj z275<|aj n275<|aj a277<|aj s277<|aj z277<|aj i277<|aj n277<|aj u279<|aj a279<|aj s279<|aj z279<|aj i279<|aj a280<|aj s280<|aj z280<|aj n280<|aj u281<|aj a281<|aj s281<|aj z281<|aj q281<|aj i281<|aj n281<|aj u282<|aj a282<|aj s282<|aj z282<|aj i282<|aj u283<|aj a283<|aj s283<|aj z283<|aj i283<|aj a285<|aj s285<|aj z285<|aj i285<|aj n285<|aj p285<|aj ff285<|d285
def seen(A:List Arc)(fs ft:Arc->Nat):List Arc:=A.map fun a=>⟨fs a,ft a,a.w⟩
def NextF(E:Env)(g:FuncId)(γ:Gra)(pn:Value)(fs:Arc->Nat):Prop:= ∀(h:Hp) (nb:Nat),h.t.Sized h.n->bT h nb pn γ-> ∀v,v<γ.nodes->Ret E g [pn,.int .i64 (v:Nat)] h fun r h'=>Gr h h'/\aA h' 1 bW r (outs γ.arcs fs γ.arcs.length v)/\ ∀c,av r c->h.n<=c
def dD(l:List Nat):List Value:=l.flatMap bW
theorem jD(l:List Nat):dD l=l.map fun(x:Nat)=>Value.int .i64 x:=by
 unfold dD;rw [yc,yp,yc];rfl
theorem tU(l:List Int):ints l=l.map fun x=>Value.int .i64 x:=by
 unfold ints;rw [yc,yp,yc];rfl
theorem lW(l:List Nat):(dD l).length=l.length:=by rw [jD,yj]
theorem nats_app(l:List Nat)(x:Nat):dD (l++[x])=dD l++dD [x]:=by rw [jD,jD,jD,List.map_append]
theorem lK{A:List Arc}{fs ft:Arc->Nat}{i:Nat}(hi:i<A.length):(seen A fs ft).getD i default=⟨fs (A.getD i default),ft (A.getD i default),(A.getD i default).w⟩/\(seen A fs ft).getD i default∈seen A fs ft:=by
 have e:(seen A fs ft).getD i default=⟨fs (A.getD i default),ft (A.getD i default),(A.getD i default).w⟩:=by
  unfold seen;simp [xY,hi]
 refine⟨e,?_⟩
 rw [xY,xZ (by unfold seen;simpa using hi)]
 exact yl _
theorem qw{A:List Arc}{fs ft:Arc->Nat}{a:Arc}(ha:a∈seen A fs ft): ∃i,i<A.length/\(seen A fs ft).getD i default=a:=by
 obtain⟨i,hi,e⟩:=List.mem_iff_getElem.1 ha
 exact⟨i,by unfold seen at hi;simpa using hi,by simp [xY,hi,e]⟩
def qz(h':Hp)(m:Nat)(r:Value)(B:List Arc)(s N:Nat):Prop:= ∃vD vA vO D aL O,r=.agg ⟨[vD,vA,vO]⟩/\aA h' 1 bW vD ((yb N).map D)/\aA h' 1 (encI .i64) vA aL/\aA h' 1 bW vO O/\aL.length=N/\(∀v,IsD B s v (D v))/\(∀c,av vD c\/av vA c\/av vO c->m<=c)/\O.Nodup/\ ∀v∈O,v<N
theorem pU{h0:Hp}(ok:h0.t.Sized h0.n){F:List Nat}{p:Value}{N:Nat}{K:Nat->Option Int}(H:cy h0 F p N K)(hN:N<=1000):Ret xW 132 [p] h0 fun r h'=> ∃(v:Nat) (k:Int) (b:Bool),r=.tuple #[.int .i64 (v:Nat),.int .i64 k,.bool b]/\Mo (· ∈F) h0 h'/\cy h' F p N (if b=true then ca K v none else K)/\(b=true->K v=some k/\ ∀u k',K u=some k'->k<=k')/\(b=false-> ∀v,K v=none):=by
 refine nT (qK ok H hN) ?_
 rintro r h' (⟨rfl,h1,g⟩|⟨v,k,rfl,h1,h2,h3,h4⟩)
 . exact⟨0,0,false,rfl,g.fr,H.gr g,fun h=>(by cases h),fun _=>h1⟩
 . exact⟨v,k,true,rfl,h3,h4,fun _=>⟨h1,fun u k' h=>by have:=h2 u k' h;omega⟩,fun h=>(by cases h)⟩
def FloodI(h0:Hp)(B:List Arc)(s N b9 br bc ba bd b8 bP bp:Nat)(gN gE:FuncId)(O:List Nat)(ρ:Nat->Value)(d:List Deferred)(h:Hp):Prop:=
 ∃ (dbs:List Nat) (D:Nat->Nat) (K:Nat->Option Int) (F:List Nat) (es:List (Value×Value×Nat)) (c:Nat) (f:Int->Option Value) (aL:List Int) (vO:Value) (bk:Nat) (v:Nat) (key:Int) (b:Bool),d=dbs.map nV/\
   St NoM h0 h ([(bk,Ob.row [.int .i64 key] 1),(b9,.row [ptrTo br] 1),(br,.row [ptrTo bP,.slice (some ⟨bd,0,none⟩) N N,.slice (some ⟨ba,0,none⟩) N N,vO,.map (some bc)] 1),(bc,.map es c),(ba,.row (ints aL) 1),(bd,.row (dD ((yb N).map D)) 1),(b8,.row [.slice none 0 0,.slice none 0 0,.slice none 0 0] 1)]++dG dbs) [(vO,1,dD O)]/\
   (∀c'∈F,h0.n<=c'/\c'∉keys ([(bk,Ob.row [.int .i64 key] 1),(b9,.row [ptrTo br] 1),(br,.row [ptrTo bP,.slice (some ⟨bd,0,none⟩) N N,.slice (some ⟨ba,0,none⟩) N N,vO,.map (some bc)] 1),(bc,.map es c),(ba,.row (ints aL) 1),(bd,.row (dD ((yb N).map D)) 1),(b8,.row [.slice none 0 0,.slice none 0 0,.slice none 0 0] 1)]++dG dbs) [(vO,1,dD O)])/\
   aL.length=N/\c8 es c f/\ClF O f/\Dj B s N O D K (fun _=>False)/\cy h F (ptrTo bP) N (if b=true then ca K v none else K)/\(b=true->K v=some key/\ ∀u k',K u=some k'->key<=k')/\(b=false-> ∀v,K v=none)/\
   ρ 0=ptrTo bp/\ρ 2=.func (.func gN) #[ptrTo bp] #[]/\ρ 3=.func (.func gE) #[] #[]/\ρ 8=ptrTo b8/\ρ 9=ptrTo b9/\ρ 10=.int .i64 v/\ρ 11=ptrTo bk/\ρ 12=.bool b
theorem tW {h0:Hp} (ok:h0.t.Sized h0.n) {γ:Gra} (hγ:Good γ) {pn:Value} {nb:Nat} (hn:bT h0 nb pn γ) {s:Nat} (hs:s<γ.nodes) {gN gE:FuncId} {fs ft:Arc->Nat} (hN:NextF xW gN γ pn fs) (hE:KeyF xW gE ft) (hft: ∀a∈γ.arcs,ft a<γ.nodes):
 Ret xW 87 [pn,.int .i64 s,.func (.func gN) #[pn] #[],.func (.func gE) #[] #[]] h0 fun r h'=>Gr h0 h'/\qz h' h0.n r (seen γ.arcs fs ft) s γ.nodes:=by
 have n1:=hγ.n1
 have n2:=hγ.n2
 have S:=Si ok
 have c1: ¬((s:Int)<0):=by omega
 have c2: ¬((γ.nodes:Int)<=(s:Int)):=by omega
 obtain⟨bp,epn⟩: ∃b,pn=ptrTo b:=by obtain⟨b,_,_,_,_,_,e,_⟩:=hn.ex;exact⟨b,e⟩
 subst epn
 refine ac (n:=117) (rs:=[.cell 8 158]) rfl Tryz.e87 rfl rfl rfl (lbt rfl) ?_
 simp only [BS,Tryz.FFf587]
 refine ae aw S ?_;clear S;intro h b8 S n_b8
 simp only [BS,LB,Nat.reduceLT,Nat.reduceEqDiff,Tryz.FFf587,c1]
 refine ar (cH S.ok (hn.gr S.gr)) ?_;intro h g;replace S:=S.call g;clear g
 simp only [BS,LB,Nat.reduceLT,Nat.reduceEqDiff,c2]
 refine ar (cH S.ok (hn.gr S.gr)) ?_;intro h g;replace S:=S.call g;clear g
 simp only [BS,LB,Nat.reduceLT,Nat.reduceEqDiff]
 have nF:=S.fr.n
 have kF:=fun {c} (hc:c∈_)=>S.key_lt (b:=c) hc
 refine step_ret (qE S.ok) ?_;intro v h ⟨g,Fh,H,hFn⟩;replace S:=S.call g;clear g
 rename Value=>p
 have dF: ∀c∈Fh,c∉keys [(b8,Ob.row [.slice none 0 0,.slice none 0 0,.slice none 0 0] 1)] []:=fun c hc hm=>by have:=kF hm;have:=hFn c hc;omega
 have lF:=H.lt S.ok
 have S0:=S
 have gF: ∀c∈Fh,h0.n<=c\/NoM c:=fun c hc=>.inl (xX nF (hFn c hc))
 replace S:=S.base
 simp only [BS,LB]
 refine ae (bL (by exact Tryz.u25) (by exact Tryz.e2E) (by decide) (by rfl)) S ?_;clear S;intro h bs1 S n_bs1;simp only [LC,aU,bI,ag,Nat.reduceMul,Nat.reduceAdd,yr,yo,yy,yz]at S
 simp only [BS,LB,Nat.reduceLT,Nat.reduceEqDiff]
 refine ar (cH S.ok (hn.gr (S0.rebase S).gr)) ?_;intro h g;replace S:=S.call g;clear g
 simp only [BS,LB,Nat.reduceLT,Nat.reduceEqDiff]
 have kl:=fun {c} (hc:c∈_)=>S.key_lt (b:=c) hc
 have kn:=S.fr.n
 refine step_ret (rep64_ok S.ok (x:=72057594037927936) (.inr ⟨bs1,0,none,1,rfl,yD _,S.lds (b:=bs1) (o:=0) (n:=1*1) m0 (lbt rfl)⟩) n1 (by omega)) ?_;intro v h ⟨g,bd,ed,nd,Rd⟩;replace S:=S.call g;clear g
 subst ed
 replace S:=S.drop1
 replace S:=S.push (b:=bd) (o:=.row _ 1) (.inl (xX kn nd)) Rd (fun hm=>by have:=kl (yf _ hm);omega)
 simp only [BS,LB]
 refine ae (bL (by exact yP) (by exact yQ) (by decide) (by rfl)) S ?_;clear S;intro h bs2 S n_bs2;simp only [LC,aU,bI,ag,Nat.reduceMul,Nat.reduceAdd,yr,yo,yy,yz]at S
 simp only [BS,LB,Nat.reduceLT,Nat.reduceEqDiff]
 refine ar (cH S.ok (hn.gr (S0.rebase S).gr)) ?_;intro h g;replace S:=S.call g;clear g
 simp only [BS,LB,Nat.reduceLT,Nat.reduceEqDiff]
 have kl2:=fun {c} (hc:c∈_)=>S.key_lt (b:=c) hc
 have kn2:=S.fr.n
 refine step_ret (repI_ok S.ok (x:= -1) (.inr ⟨bs2,0,none,1,rfl,yD _,S.lds (b:=bs2) (o:=0) (n:=1*1) m0 (lbt rfl)⟩) n1 (by omega)) ?_;intro v h ⟨g,ba,ea,na,Ra⟩;replace S:=S.call g;clear g
 subst ea
 replace S:=S.drop1
 replace S:=S.push (b:=ba) (o:=.row _ 1) (.inl (xX kn2 na)) Ra (fun hm=>by have:=kl2 (yf _ hm);omega)
 have pp: ∃b,p=ptrTo b:=by obtain⟨b,_,_,e,_⟩:=H.ex;exact⟨b,e⟩
 obtain⟨bP,rfl⟩:=pp
 simp only [BS,LB,Nat.reduceLT,Nat.reduceEqDiff,Nat.reduceAdd,Tryz.FFf587]
 refine ae rO S ?_;clear S;intro h bc S n_bc
 simp only [BS,LB,Nat.reduceLT,Nat.reduceEqDiff,Nat.reduceAdd,Nat.reduceLeDiff,Tryz.FFf587]
 refine ae (bE (by intro x e;cases e)) S ?_;clear S;intro h br S n_br;simp only [ag]at S
 simp only [BS,Tryz.FFf587]
 refine ae aw S ?_;clear S;intro h b9 S n_b9
 simp only [BS,LB,Nat.reduceLT,Nat.reduceEqDiff]
 refine az (aB S (i:=0) rfl ?_ ?_ ?_ ono) ?_
 . exact(by simp only [Tryz.FFf587])
 . exact(by exact fb)
 . exact ye (lbt rfl)
 clear S;rintro h ⟨S,mo⟩;clear mo;simp only [LC,ag,lay,yg,yh,Nat.reduceAdd]at S
 simp only [BS,LB,Nat.reduceLT,Nat.reduceEqDiff,Tryz.FFf587,S.ld (b:=b9) (o:=0) m0 rfl,S.ld (b:=br) (o:=0) m1 rfl]
 have d8: ∀c∈Fh,c≠b8:=fun c hc e=>dF c hc (by rw [e];simp [keys])
 have nd':=xX kn nd
 have na':=xX kn2 na
 clear kl kl2 kF kn nd kn2 na Ra Rd
 have HA:=H.mo S.fr dF
 have dis: ∀c∈Fh,c≠b9/\c≠br/\c≠bc/\c≠ba/\c≠bd/\c≠b8:=fun c hc=>by have:=lF c hc;have:=d8 c hc;omega
 replace S:=S0.rebase S
 clear S0 dF lF d8 H n_bs1 n_bs2
 have T:=S.baseF Fh
 have nh:=S.fr.n
 have hF1: ∀L,(∀c∈keys L [],c=b9\/c=br\/c=bc\/c=ba\/c=bd\/c=b8)-> ∀c∈Fh,c∉keys L []:=fun L hL c hc hm=>by
  have:=dis c hc
  have:=hL c hm
  omega
 have ps:Ret xW 131 [ptrTo bP,.int .i64 (s:Nat),.int .i64 0] h _:=mP S.ok HA hs (by omega) rfl
 refine step_ret ps ?_
 rintro r h1 ⟨f1,F1,H1,hF'⟩
 replace S:=S.rebaseF gF (T.stepF f1 (fun c hc=>⟨.inl (.inr hc),hF1 _ (fun c hc=>by simpa [keys]using hc) c hc⟩))
 have hF1': ∀c∈F1,h0.n<=c/\c∉keys [(b9,Ob.row [ptrTo br] 1),(br,.row [ptrTo bP,.slice (some ⟨bd,0,none⟩) γ.nodes γ.nodes,.slice (some ⟨ba,0,none⟩) γ.nodes γ.nodes,.slice none 0 0,.map (some bc)] 1),(bc,.map [] 0),(ba,.row (yn γ.nodes (.int .i64 (-1))) 1),(bd,.row (yn γ.nodes (.int .i64 72057594037927936)) 1),(b8,.row [.slice none 0 0,.slice none 0 0,.slice none 0 0] 1)] []:=fun c hc=>by
  rcases hF' c hc with h2|h2
  . exact⟨(gF c h2).elim (fun h=>h) (fun h=>h.elim),hF1 _ (fun c hc=>by simpa [keys]using hc) c h2⟩
  . refine⟨xX nh h2,fun hm=>?_⟩
    have:=T.key_lt (b:=c) (by simpa [keys]using hm)
    omega
 clear T hF1 dis hFn gF nF hF' HA f1
 replace S:=S.nilG (k:=1)
 have dj:=dj_init (B:=seen γ.arcs fs ft) hs
 have lF1:=H1.lt S.ok
 have S1:=S
 replace S:=S.baseF F1
 simp only [BS,LB,Nat.reduceLT,Nat.reduceEqDiff,Tryz.FFf587,S.ld (b:=b9) (o:=0) m0 rfl,S.ld (b:=br) (o:=0) m1 rfl]
 refine step_ret (pU S.ok H1 (by omega)) ?_
 rintro r h2 ⟨v,k,b,rfl,f2,H2,hb1,hb2⟩
 replace S:=S.stepF f2 (fun c hc=>⟨.inl (.inr hc),fun hm=>(hF1' c hc).2 (by simpa [keys,dR]using hm)⟩)
 simp only [BS,LB,Nat.reduceLT,Nat.reduceEqDiff,Tryz.FFf587]
 have S2:=S
 replace S:=S.base
 refine ae aw S ?_;clear S;intro h bk S n_bk
 simp only [BS,LB,Nat.reduceLT,Nat.reduceEqDiff]
 refine az (aB S (i:=0) rfl ?_ ?_ ?_ ono) ?_
 . exact(by simp only [Tryz.FFf587])
 . exact(by exact bw)
 . exact ye (lbt rfl)
 clear S;rintro h ⟨S,mo⟩;clear mo;simp only [LC,ag,lay,yg,yh,Nat.reduceAdd]at S
 simp only [BS,LB,Nat.reduceLT,Nat.reduceEqDiff]
 have H3:=H2.mo S.fr (fun c hc hm=>(hF1' c hc).2 (by simpa [keys,dR]using hm))
 refine oB (FloodI h0 (seen γ.arcs fs ft) s γ.nodes b9 br bc ba bd b8 bP bp gN gE) (fun O=>γ.nodes-O.length) ?_ [] _ _ _ ?_
 . clear S S1 S2 H3 hb1 hb2 H2 f2 H1 dj hF1' lF1 ps
   intro O ih ρ d hS ⟨dbs,D,K,F,es,c,f,aL,vO,bk,v,key,b,hd,S0,hF,lA,MI,CF,dj,H,hb1,hb2,r0,r2,r3,r8,r9,r10,r11,r12⟩
   simp only [List.cons_append,List.nil_append]at S0 hF
   have S:=S0.base
   cases b with
   | false=>
     simp only [BS,LB,Nat.reduceLT,Nat.reduceEqDiff,Tryz.FFf587,r8,r9,r12,S.ld (b:=b9) (o:=0) m1 rfl,S.lds (b:=br) (o:=1) (n:=3) m2 (lbt rfl)]
     have fvO:Fl vO:=by
      rcases(S0.gown _ m0).1 with⟨e,_⟩|⟨_,_,e,_⟩
      . rw [show vO=_ from e];exact aW
      . rw [show vO=_ from e];exact aW
     refine az (S.store (i:=6) rfl yK (by intro x e;cases e) rfl (by simp only [ag,List.drop_succ_cons,yt,yT,List.take_zero,yx,yA,fvO.2.1,yi];rfl) (lbt rfl) ono) ?_
     clear S;rintro h ⟨S,_⟩
     simp only [LC,ag,lay,yg,yh,Nat.reduceAdd]at S
     simp only [BS]
     replace S:=(S0.rebase S).permL (L':=dG dbs++[(bk,_),(b9,_),(br,_),(bc,_),(ba,_),(bd,_),(b8,_)]) List.perm_append_comm
     subst hd
     refine eJ (iD dbs _ S fun h' S'=>?_)
     have lT:=S'.lds (b:=b8) (o:=0) (n:=3) m6 (lbt rfl)
     refine⟨rfl,_,pJ (by decide) (by simp only [aK,r8,ah,Nat.reduceEqDiff,reduceIte];exact cm Tryz.a158 yK lT),S'.gr,?_⟩
     refine⟨_,_,_,D,aL,O,rfl,?_,?_,?_,lA,dj.done (hb2 rfl) n2,?_,dj.nd,dj.lt⟩
     . refine .inr ⟨bd,0,none,γ.nodes,by rw [yj,yq],by rw [yj,yq];exact yD _,?_⟩
       have:=(S'.row (b:=bd) m5).load (o:=0) (n:=((yb γ.nodes).map D).length*1) (by rw [lW];omega)
       rw [this,yt,yR (by rw [lW];omega)];rfl
     . refine .inr ⟨ba,0,none,γ.nodes,by rw [lA],by rw [lA];exact yD _,?_⟩
       have:=(S'.row (b:=ba) m4).load (o:=0) (n:=aL.length*1) (by rw [dI];omega)
       rw [this,yt,yR (by rw [dI];omega)];rfl
     . exact(S'.gown _ m0).1.sl rfl fH (by decide)
     . rintro c (h|h|h)
       . have h:bd=c:=h
         subst h;exact((S'.own _ m5).1).elim (fun h=>h) (fun h=>h.elim)
       . have h:ba=c:=h
         subst h;exact((S'.own _ m4).1).elim (fun h=>h) (fun h=>h.elim)
       . exact((S'.gblk m0 h).1).elim (fun h=>h) (fun h=>h.elim)
   | true =>
     simp only [if_true]at H
     obtain⟨hk,hmin⟩:=hb1 rfl
     obtain⟨_,n,rfl,_,_⟩:=dj.i3 v key hk
     obtain⟨dj2,hvO,hvN,hnb⟩:=dj.pop hk hmin
     have lk:=pz (x:=(v:Int)) Tryz.u153 Tryz.u3 (z:=.int .i64 0) (by kernel_rfl) (show hS.get bc=some (.map es c)from(S.own _ m3).2) MI
     rw [CF v,if_neg hvO,yF]at lk
     have w1:au .i64 1=1:=rfl
     simp only [BS,LB,Nat.reduceLT,Nat.reduceEqDiff,Int.reduceAdd,Tryz.FFf587,r9,r10,r12,lk,w1,S.ld (b:=b9) (o:=0) m1 rfl,S.ld (b:=br) (o:=4) m2 rfl]
     refine az (S.mputI (i:=3) rfl Tryz.u153 Tryz.u3 MI _) ?_
     clear S;rintro h ⟨_,es',c',MI',S⟩
     simp only [LC]at S
     simp only [BS]
     refine aC (aH rfl) (q:=0) (ps:=[]) (by kernel_rfl) ?_
     simp only [BS,LB,cls,Nat.reduceLT,Nat.reduceEqDiff,Nat.reduceAdd,Nat.reducePow,Nat.reduceDiv,Nat.reduceMod,Nat.reduceLeDiff,Tryz.FFf587,r9,r10,r11,hvN,S.ld (b:=b9) (o:=0) m1 rfl,S.ld (b:=br) (o:=1) m2 rfl,S.ld (b:=bk) (o:=0) m0 rfl]
     refine c5 (aB S (i:=5) rfl Tryz.s2 bw (by rw [lW,yj,yq];exact hvN) ono) ?_
     clear S;rintro h ⟨S,_⟩
     simp only [LC]at S
     have eD:(dD ((yb γ.nodes).map D)).set v (.int .i64 (n:Nat))=dD ((yb γ.nodes).map fun u=>if u=v then n else D u):=by
      rw [jD,jD,List.map_map,List.map_map]
      have:=ij (N:=γ.nodes) (k:=v) (F:=(fun(x:Nat)=>Value.int .i64 x)∘D) (F':=(fun(x:Nat)=>Value.int .i64 x)∘fun u=>if u=v then n else D u) (fun u _ hu=>by simp [hu])
      rw [<-this];simp
     rw [eD]at S
     simp only [BS,LB,Nat.reduceAdd]
     refine aC (aH rfl) (q:=128) (ps:=[(0,8)]) (by kernel_rfl) ?_
     simp only [BS,LB,cls,Nat.reduceLT,Nat.reduceEqDiff,Nat.reduceAdd,Nat.reducePow,Nat.reduceDiv,Nat.reduceMod,Nat.reduceLeDiff,Tryz.FFf587,r9,r10,S.ld (b:=b9) (o:=0) m1 rfl,S.ld (b:=br) (o:=3) m2 rfl]
     refine dt (bL (by exact yP) (by exact yQ) (by decide) (by rfl)) S ?_;clear S;intro h bs S n_bs e_bs;simp only [LC,aU,bI,ag,Nat.reduceMul,Nat.reduceAdd,yr,yo,yy,yz]at S
     simp only [BS,LB,cls,Nat.reduceLT,Nat.reduceEqDiff,Nat.reduceAdd,Nat.reducePow,Nat.reduceDiv,Nat.reduceMod,Nat.reduceLeDiff]
     have src:aO h 1 (.slice (some ⟨bs,0,none⟩) 1 1)=some (1,dD [v]):=by simp only [aO];rw [S.lds (b:=bs) (o:=0) (n:=1*1) m0 (lbt rfl)];rfl
     replace S:=S.drop1
     refine dn_v (S.grow (j:=0) (m:=1) (new:=dD [v]) rfl yP yQ (by decide) Tryz.n40 src rfl (by decide) rfl (by rw [lW,lW];have:=dj.len;simp;omega)) ?_
     clear S src;rintro h vO' S
     simp only [LC,<-nats_app]at S
     have fvO:Fl vO':=by
      rcases(S.gown _ m0).1 with⟨e,_⟩|⟨_,_,e,_⟩
      . rw [show vO'=_ from e];exact aW
      . rw [show vO'=_ from e];exact aW
     simp only [BS,LB,cls,Nat.reduceLT,Nat.reduceEqDiff,Nat.reduceAdd,Nat.reducePow,Nat.reduceDiv,Nat.reduceMod,Nat.reduceLeDiff,Tryz.FFf587]
     refine c5 (aB S (i:=2) rfl Tryz.s40 fvO (ye (lbt rfl)) ono) ?_
     clear S;rintro h ⟨S,_⟩
     simp only [LC]at S
     simp only [BS,LB,Nat.reduceLT,Nat.reduceEqDiff,Nat.reduceAdd,r0,r2,r10]
     have pv:vO=.slice none 0 0\/ ∃c n,vO=.slice (some ⟨c,0,some 1⟩) n n/\c≠b9:=by
      rcases(S0.gown _ m0).1 with⟨e,_⟩|⟨c,n,e,_⟩
      . exact .inl e
      . refine .inr ⟨c,n,e,fun h=>?_⟩
        exact(S0.gblk (c:=c) m0 (by rw [show vO=_ from e];rfl)).2 (by subst h;exact List.mem_map_of_mem (f:=Prod.fst) m1)
     refine⟨?_,?_⟩
     . clear ih
       rcases pv with rfl|⟨cO,nO,rfl,hne⟩
       . simp only [aX,bu,aS,bz,aT,ne_eq,not_false_eq_true,bF,bJ,bA,aY,bK,cD,aK,Nat.reduceLT,Nat.reduceEqDiff,reduceIte,yi,r9,ah,uf,noteSl,pair_x,entry_nl,jS]
       . simp only [aX,bu,aS,bz,aT,ne_eq,not_false_eq_true,bF,bJ,bA,aY,bK,cD,aK,Nat.reduceLT,Nat.reduceEqDiff,reduceIte,yi,r9,ah,uf,noteSl,iG hne,iG hne.symm]
     have kO: ∀c∈keys ((bk,Ob.row [.int .i64 (n:Nat)] 1)::(b9,.row [ptrTo br] 1)::(br,.row [ptrTo bP,.slice (some ⟨bd,0,none⟩) γ.nodes γ.nodes,.slice (some ⟨ba,0,none⟩) γ.nodes γ.nodes,vO,.map (some bc)] 1)::(bc,.map es c)::(ba,.row (ints aL) 1)::(bd,.row (dD ((yb γ.nodes).map D)) 1)::(b8,.row [.slice none 0 0,.slice none 0 0,.slice none 0 0] 1)::dG dbs) [(vO,1,dD O)],c<hS.n:=fun c hc=>S0.key_lt hc
     have kS:=fun {c} hc=>S.key_lt (b:=c) hc
     have ge0:=(S0.rebase S).gr.n
     refine step_ret (hN _ nb S.ok (hn.gr (S0.rebase S).gr) v hvN) ?_
     rintro vl h ⟨g,sl,hcl⟩
     have kn:=S.fr.n
     have gn:=g.n
     replace S:=S.call g;clear g
     simp only [BS,LB,Nat.reduceLT,Nat.reduceEqDiff,r3]
     have kn2:=S.fr.n
     have lvl:=fun {c} hc=>sl.lt S.ok (b:=c) hc
     refine step_ret (arcs_ok' S.ok fb sl.fl ja) ?_;intro v h ⟨g,b1,b2,b3,e,q1,q2,q3,y1,y2,y3⟩;replace S:=S.call g;replace sl:=sl.gr g;clear g
     subst e
     simp only [BS]
     have hH:=H.mo S.fr (fun c hc hm=>(hF c hc).2 hm)
     have lFS:=H.lt S0.ok
     refine g8 S (g:=160) (a:=#[]) (b:=#[ptrTo b1,ptrTo b2,ptrTo b3]) (by simp [bK,aa,ah]) rfl rfl ?_
     intro h2 db lb S' hdb hlb g2
     have R1:=S0.rebase S'
     obtain⟨X,hX,R1⟩: ∃X:eo,X=_/\St NoM h0 h2 ((lb,.loop X)::(db,.dfr)::(bk,Ob.row [.int .i64 (n:Nat)] 1)::(b9,.row [ptrTo br] 1)::(br,.row [ptrTo bP,.slice (some ⟨bd,0,none⟩) γ.nodes γ.nodes,.slice (some ⟨ba,0,none⟩) γ.nodes γ.nodes,vO',.map (some bc)] 1)::(bc,.map es' c')::(ba,.row (ints aL) 1)::(bd,.row (dD ((yb γ.nodes).map fun u=>if u=v then n else D u)) 1)::(b8,.row [.slice none 0 0,.slice none 0 0,.slice none 0 0] 1)::dG dbs) [(vO',1,dD (O++[v]))]:=⟨_,rfl,R1⟩
     have CF':ClF (O++[v]) (dl f (v:Int) (some (.int .i64 1))):=fun u=>by
      unfold dl
      by_cases e:u=v
      . subst e;simp
      . have e': ¬((u:Int)=(v:Int)):=by omega
        rw [if_neg e',CF u]
        simp [e]
     have hJ :Yld xW lb (fun k h' F'=> ∃K' Fh aL',St NoM h0 h' ((lb,.loop X)::(db,.dfr)::(bk,Ob.row [.int .i64 (n:Nat)] 1)::(b9,.row [ptrTo br] 1)::(br,.row [ptrTo bP,.slice (some ⟨bd,0,none⟩) γ.nodes γ.nodes,.slice (some ⟨ba,0,none⟩) γ.nodes γ.nodes,vO',.map (some bc)] 1)::(bc,.map es' c')::(ba,.row (ints aL') 1)::(bd,.row (dD ((yb γ.nodes).map fun u=>if u=v then n else D u)) 1)::(b8,.row [.slice none 0 0,.slice none 0 0,.slice none 0 0] 1)::dG dbs) [(vO',1,dD (O++[v]))]/\
      cy h' Fh (ptrTo bP) γ.nodes K'/\(∀c∈Fh,h0.n<=c/\c∉keys ((lb,.loop X)::(db,.dfr)::(bk,Ob.row [.int .i64 (n:Nat)] 1)::(b9,.row [ptrTo br] 1)::(br,.row [ptrTo bP,.slice (some ⟨bd,0,none⟩) γ.nodes γ.nodes,.slice (some ⟨ba,0,none⟩) γ.nodes γ.nodes,vO',.map (some bc)] 1)::(bc,.map es' c')::(ba,.row (ints aL') 1)::(bd,.row (dD ((yb γ.nodes).map fun u=>if u=v then n else D u)) 1)::(b8,.row [.slice none 0 0,.slice none 0 0,.slice none 0 0] 1)::dG dbs) [(vO',1,dD (O++[v]))])/\
      aL'.length=γ.nodes/\Dj (seen γ.arcs fs ft) s γ.nodes (O++[v]) (fun u=>if u=v then n else D u) K' (fun a=> ∃id∈(outs γ.arcs fs γ.arcs.length v).drop k,(seen γ.arcs fs ft).getD id default=a)/\
      F'=keys ((lb,.loop X)::(db,.dfr)::(bk,Ob.row [.int .i64 (n:Nat)] 1)::(b9,.row [ptrTo br] 1)::(br,.row [ptrTo bP,.slice (some ⟨bd,0,none⟩) γ.nodes γ.nodes,.slice (some ⟨ba,0,none⟩) γ.nodes γ.nodes,vO',.map (some bc)] 1)::(bc,.map es' c')::(ba,.row (ints aL') 1)::(bd,.row (dD ((yb γ.nodes).map fun u=>if u=v then n else D u)) 1)::(b8,.row [.slice none 0 0,.slice none 0 0,.slice none 0 0] 1)::dG dbs) [(vO',1,dD (O++[v]))]++Fh) (fun _ _=>False) (lC γ.arcs ft (outs γ.arcs fs γ.arcs.length v)):=by
      clear ih S' R1 y1 y2 y3 hH S g2 H hF sl
      refine⟨?_,?_,fun _ _ h=>h.elim,?_⟩
      . rintro k h F' ⟨K',Fh,aL',S,H,hF,_,_,rfl⟩
        exact⟨S.ok,fun b hb=>(List.mem_append.1 hb).elim (fun hb=>S.key_lt hb) (fun hb=>H.lt S.ok b hb)⟩
      . rintro k h F' h' ⟨K',Fh,aL',S,H,q⟩ g
        exact⟨K',Fh,aL',S.call g,H.gr g,q⟩
      . rintro k x h F' hx ⟨K',Fh,aL',S,H,hF,lA',dj',rfl⟩
        have hkl:k<(outs γ.arcs fs γ.arcs.length v).length:=by
         have:=(List.getElem?_eq_some_iff.1 hx).1
         simpa [lC]using this
        unfold lC at hx
        rw [ym,xZ hkl]at hx
        cases hx
        have hm:=im.1 (yl hkl)
        rw [yO hkl]at dj'
        generalize(outs γ.arcs fs γ.arcs.length v)[k]=id at hm dj'
        obtain⟨hid,hfs⟩:=hm
        subst hX
        refine hI (S.get m0) (by rw [Tryz.e87];rfl) rfl ?_
        have S1:=S
        replace S:=S.base
        simp only [BS,LB,Nat.reduceLT,Nat.reduceEqDiff,Tryz.FFf587]
        refine ae aw S ?_;clear S;intro h b14 S n_b14
        simp only [BS,LB,Nat.reduceLT,Nat.reduceEqDiff,yB,cI]
        refine az (S.store (i:=0) rfl ?_ ?_ rfl rfl ?_ ono) ?_
        . exact(by exact yX)
        . exact(by intro x e;cases e)
        . exact lbt rfl
        clear S;rintro h ⟨S,mo⟩;clear mo;simp only [LC,ag,lay,yg,yh,Nat.reduceAdd]at S
        simp only [BS]
        refine gp S (i:=1) rfl rfl rfl rfl rfl ?_
        clear S;intro h S
        simp only [LC]at S
        have amem:γ.arcs.getD id default∈γ.arcs:=by rw [xY,xZ hid];exact yl hid
        have aok:=hγ.arcs _ amem
        have hol:O.length*cK<=12*cK:=yw _ (xX dj.len n2)
        have wmax:=kC
        have wn:au .i64 ((n:Int)+((γ.arcs.getD id default).w:Int))=((n+(γ.arcs.getD id default).w:Nat):Int):=by rw [wrap64]<;>omega
        simp only [BS,LB,Nat.reduceLT,Nat.reduceEqDiff,Tryz.FFf587,r9,r11,wn,S.ld (b:=b9) (o:=0) m4 rfl,S.ld (b:=b14) (o:=1) m0 rfl,S.ld (b:=b14) (o:=2) m0 rfl,S.ld (b:=bk) (o:=0) m3 rfl]
        have hH:=H.mo S.fr (fun c hc hm=>(hF c hc).2 hm)
        have lF2:=H.lt S1.ok
        have d3:br≠ba:=fun e=>by
         have ap:=S1.apart
         subst e
         simp only [keys,List.map_cons,List.cons_append,List.nodup_cons,List.mem_cons]at ap
         exact ap.2.2.2.2.1 (.inr (.inl trivial))
        replace S:=S.mono (M':=fun c=>c∈keys _ _\/c∈Fh) (fun _ h=>.inl h)
        refine step_ret (reach_ok S.ok (arc:=id) (far:=n+(γ.arcs.getD id default).w) (S.row m5) hH (by omega) (S.own _ m6).2 MI' CF' (S.row m7) lA' (hft _ amem) (fun h=>(hF ba h).2 (by simp [keys])) (fun h=>(hF br h).2 (by simp [keys])) d3) ?_
        rintro r h ⟨f1,F2,aL2,H2,hF2,hA2,lA2,rel⟩
        have kq:=fun {c} hc=>S.key_lt (b:=c) hc
        have qn:=S.fr.n
        have S2:=S.callF (i:=7) (Fh:=Fh) rfl f1 (fun c hc=>⟨.inl (.inr hc),fun hm=>by
         rcases List.mem_cons.1 hm with e|hm
         . have:=lF2 c hc;omega
         . exact(hF c hc).2 hm⟩) (o':=.row _ 1) hA2
        simp only [List.set_cons_zero,List.set_cons_succ]at S2
        clear S
        simp only [BS]
        have S:=S2.base
        refine dY S (i:=1) rfl ?_
        clear S;intro h S
        simp only [LC]at S
        have H3:=H2.mo S.fr (fun c hc hm=>by
         rcases hF2 c hc with h1|h1
         . rcases List.mem_cons.1 hm with e|hm
           . have:=lF2 c h1;omega
           . exact(hF c h1).2 hm
         . have:=kq hm;omega)
        have S3:=S2.rebase S
        refine .inl ⟨rfl,_,⟨_,F2,aL2,S1.rebaseF (fun c hc=>.inl (hF c hc).1) S3.drop1,H3,fun c hc=>?_,lA2,?_,rfl⟩,S3.fr.mono (fun c hc=>List.mem_append.2 hc),fun c hc=>?_⟩
        . rcases hF2 c hc with h1|h1
          . exact hF c h1
          . refine⟨xX S1.fr.n (xX qn h1),fun hm=>?_⟩
            have:=kq (yf _ hm)
            omega
        . obtain⟨e1,e2⟩:=lK (fs:=fs) (ft:=ft) hid
          have:=dj'.relaxed (ex':=fun a=> ∃id'∈(outs γ.arcs fs γ.arcs.length v).drop (k+1),(seen γ.arcs fs ft).getD id' default=a) e2 (by rw [e1];show fs _∈_;rw [hfs];simp) (by rw [e1];exact hft _ amem) (by rw [e1];simp only [hfs,if_true];rw [yL,yH,yV];omega) (fun b hb hx=>by
           by_cases eb:b=(seen γ.arcs fs ft).getD id default
           . exact .inr eb
           . left
             rintro⟨i,hi,rfl⟩
             rcases List.mem_cons.1 hi with e|hi
             . subst e;exact eb rfl
             . exact hx ⟨i,hi,rfl⟩)
          simp only [e1,hfs,if_true]at this
          exact this
        . rcases List.mem_append.1 hc with hc|hc
          . exact .inl (ya _ hc)
          . rcases hF2 c hc with h1|h1
            . exact .inl (yd _ h1)
            . exact .inr (xX qn h1)
     have hkeep:=(S0.rebase S).gr
     have hol2:=ks γ.arcs fs γ.arcs.length v
     have hgm:=hγ.many
     refine fg (iter_useN (arcs_it (hq:=h0) ok S.ok hkeep.keep hkeep.n hn sl (fun id hid=>(im.1 hid).1) (by omega) hE y1 y2 y3) (fun _ _ h=>h) hJ (h:=h2) (F:=keys ((lb,.loop X)::(db,.dfr)::(bk,Ob.row [.int .i64 (n:Nat)] 1)::(b9,.row [ptrTo br] 1)::(br,.row [ptrTo bP,.slice (some ⟨bd,0,none⟩) γ.nodes γ.nodes,.slice (some ⟨ba,0,none⟩) γ.nodes γ.nodes,vO',.map (some bc)] 1)::(bc,.map es' c')::(ba,.row (ints aL) 1)::(bd,.row (dD ((yb γ.nodes).map fun u=>if u=v then n else D u)) 1)::(b8,.row [.slice none 0 0,.slice none 0 0,.slice none 0 0] 1)::dG dbs) [(vO',1,dD (O++[v]))]++F) g2.fr (fun b hb hlt=>?_)
      ⟨ca K v none,F,aL,R1,hH.gr g2,fun c hc=>⟨(hF c hc).1,fun hm=>?_⟩,lA,dj2.exm (fun a ha hs=>?_),rfl⟩) fun o rc h' y=>jJ y ?_
     . rcases List.mem_append.1 hb with hb'|hb'
       . have k2:=(R1.key_own hb').elim (fun h=>h) (fun h=>h.elim)
         rcases List.mem_cons.1 hb' with e|hb'
         . simp only []at e;omega
         . rcases List.mem_cons.1 hb' with e|hb'
           . simp only []at e;omega
           . have k1:=kS hb'
             rintro(h|h|h|h|h)
             . omega
             . omega
             . omega
             . have:=hcl b h;omega
             . omega
       . have k1:=lFS b hb'
         have k2:=(hF b hb').1
         rintro(h|h|h|h|h)
         . omega
         . omega
         . omega
         . have:=hcl b h;omega
         . omega
     . have k1:=lFS c hc
       have knh:=S.fr.n
       rcases List.mem_cons.1 hm with e|hm
       . simp only []at e;omega
       . rcases List.mem_cons.1 hm with e|hm
         . simp only []at e;omega
         . rcases S.key_own hm with h1|h1
           . omega
           . exact(hF c hc).2 h1
     . obtain⟨i,hi,e⟩:=qw ha
       refine⟨i,?_,e⟩
       rw [yt]
       refine im.2 ⟨hi,?_⟩
       have:=(lK (fs:=fs) (ft:=ft) hi).1
       rw [e]at this
       rw [this]at hs
       exact hs
     . rintro Fx ⟨K',Fh',aL',T,H',hF',lA',dj',rfl⟩
       clear hJ R1 y1 y2 y3 hH S' S
       rw [show(lC γ.arcs ft (outs γ.arcs fs γ.arcs.length v)).length=(outs γ.arcs fs γ.arcs.length v).length by simp [lC],List.drop_length]at dj'
       replace dj':=dj'.exm (ex':=fun _=>False) (fun a _ h=>by obtain⟨i,hi,_⟩:=h;cases hi)
       subst hX
       refine⟨_,T.get m0,Nat.zero_ne_one,?_⟩
       have hF2: ∀c∈Fh',c≠lb:=fun c hc e=>(hF' c hc).2 (by rw [e];exact m0)
       have H2:=H'.mo ((Mo.refl (M:=(· =lb)) T.ok).put (.inr rfl) .dead) hF2
       replace T:=T.dead
       replace hF':=fun c hc=>And.intro (hF' c hc).1 (fun hm=>(hF' c hc).2 (yf _ hm))
       have S:=T.base
       show Run _ _ _ _ _ _ _ _
       simp only [BS,Nat.reduceLT,Nat.reduceEqDiff,if_false,Tryz.FFf587,r11,S.ld (b:=bk) (o:=0) m1 rfl]
       refine ae aw S ?_;clear S;intro h bk2 S n_bk2
       simp only [BS,LB,Nat.reduceLT,Nat.reduceEqDiff,r11]
       refine az (aB S (i:=0) rfl ?_ ?_ ?_ ono) ?_
       . exact(by simp only [Tryz.FFf587])
       . exact(by exact bw)
       . exact ye (lbt rfl)
       clear S;rintro h ⟨S,mo⟩;clear mo;simp only [LC,ag,lay,yg,yh,Nat.reduceAdd]at S
       simp only [BS,LB,Nat.reduceLT,Nat.reduceEqDiff,Tryz.FFf587,r9,S.ld (b:=b9) (o:=0) m3 rfl,S.ld (b:=br) (o:=0) m4 rfl]
       have H3:=H2.mo S.fr (fun c hc hm=>(hF' c hc).2 hm)
       have lF3:=H2.lt T.ok
       have hF3: ∀c∈Fh',h0.n<=c/\c∉keys ([(bk2,Ob.row [.int .i64 (n:Nat)] 1),(b9,.row [ptrTo br] 1),(br,.row [ptrTo bP,.slice (some ⟨bd,0,none⟩) γ.nodes γ.nodes,.slice (some ⟨ba,0,none⟩) γ.nodes γ.nodes,vO',.map (some bc)] 1),(bc,.map es' c'),(ba,.row (ints aL') 1),(bd,.row (dD ((yb γ.nodes).map fun u=>if u=v then n else D u)) 1),(b8,.row [.slice none 0 0,.slice none 0 0,.slice none 0 0] 1)]++dG (db::dbs)) [(vO',1,dD (O++[v]))]:=fun c hc=>by
        refine⟨(hF' c hc).1,fun hm=>?_⟩
        have h1:=(hF' c hc).2
        have h2:=lF3 c hc
        simp [keys,dG]at hm
        rcases hm with h|h|h|h|h|h|h|h|h|h
        . omega
        all_goals exact h1 (by simp [keys,dG,h])
       replace S:=(T.rebase S).sub (L':=(bk2,Ob.row [.int .i64 (n:Nat)] 1)::(db,.dfr)::(b9,.row [ptrTo br] 1)::(br,.row [ptrTo bP,.slice (some ⟨bd,0,none⟩) γ.nodes γ.nodes,.slice (some ⟨ba,0,none⟩) γ.nodes γ.nodes,vO',.map (some bc)] 1)::(bc,.map es' c')::(ba,.row (ints aL') 1)::(bd,.row (dD ((yb γ.nodes).map fun u=>if u=v then n else D u)) 1)::(b8,.row [.slice none 0 0,.slice none 0 0,.slice none 0 0] 1)::dG dbs) (G':=[(vO',1,dD (O++[v]))]) (.cons_cons _ (.cons_cons _ (List.sublist_cons_self _ _))) (List.Sublist.refl _)
       replace S:=S.permL (L':=[(bk2,Ob.row [.int .i64 (n:Nat)] 1),(b9,.row [ptrTo br] 1),(br,.row [ptrTo bP,.slice (some ⟨bd,0,none⟩) γ.nodes γ.nodes,.slice (some ⟨ba,0,none⟩) γ.nodes γ.nodes,vO',.map (some bc)] 1),(bc,.map es' c'),(ba,.row (ints aL') 1),(bd,.row (dD ((yb γ.nodes).map fun u=>if u=v then n else D u)) 1),(b8,.row [.slice none 0 0,.slice none 0 0,.slice none 0 0] 1)]++dG (db::dbs)) (.cons _ (by
        show(List.append [_,_,_,_,_,_] ((db,Ob.dfr)::dG dbs)).Perm _
        exact List.perm_middle))
       clear T H' H2 hF'
       have T:=S.baseF Fh'
       refine step_ret (pU S.ok H3 (by omega)) ?_
       rintro rr h3 ⟨v3,k3,b3',rfl,f3,H4,hb1',hb2'⟩
       replace S:=S.rebaseF (fun c hc=>.inl (hF3 c hc).1) (T.stepF f3 (fun c hc=>⟨.inl (.inr hc),(hF3 c hc).2⟩))
       simp only [BS,LB,Nat.reduceLT,Nat.reduceEqDiff,r11]
       clear T
       have T:=S
       replace S:=S.base
       simp only [LC]at S
       refine az (aB S (i:=0) rfl ?_ ?_ ?_ ono) ?_
       . exact(by simp only [Tryz.FFf587])
       . exact(by exact bw)
       . exact ye (lbt rfl)
       clear S;rintro h ⟨S,mo⟩;clear mo;simp only [LC,ag,lay,yg,yh,Nat.reduceAdd]at S
       simp only [BS,LB,Nat.reduceLT,Nat.reduceEqDiff]
       have H5:=H4.mo S.fr (fun c hc hm=>(hF3 c hc).2 hm)
       replace S:=T.rebase S
       subst hd
       have hlO:(O++[v]).length=O.length+1:=by simp
       have hlO2:=dj'.len
       refine ih (O++[v]) _ _ _ (by omega) ⟨db::dbs,_,K',Fh',es',c',_,aL',vO',bk2,v3,k3,b3',rfl,S,hF3,lA',MI',CF',dj',H5,hb1',hb2',?_⟩
       refine⟨by simp [aa,r0,ah],by simp [aa,r2,ah],by simp [aa,r3,ah],by simp [aa,r8,ah],by simp [aa,r9,ah],by simp [aa],by simp [aa,ah],by simp [aa]⟩
 . have e1:dD ((yb γ.nodes).map fun _=>FAR)=yn γ.nodes (.int .i64 72057594037927936):=by
    rw [jD,List.map_const',yq,List.map_replicate];rfl
   have e2:ints (yn γ.nodes (-1))=yn γ.nodes (.int .i64 (-1)):=by
    rw [tU,List.map_replicate]
   have S3:=S1.rebaseF (fun c hc=>.inl (hF1' c hc).1) (S2.rebase S)
   have nn:=S2.fr.n
   refine⟨[],fun _=>FAR,ca (fun _=>none) s (some 0),F1,[],0,fun _=>none,yn γ.nodes (-1),.slice none 0 0,bk,v,k,b,rfl,?_,?_,by simp,qq,fun u=>by simp,dj,H3,hb1,hb2,?_⟩
   . rw [e1,e2];exact S3
   . rw [e1,e2]
     intro c hc
     refine⟨(hF1' c hc).1,fun hm=>?_⟩
     have h1:=(hF1' c hc).2
     have h2:=lF1 c hc
     simp [keys,dR,dG]at hm h1
     omega
   . refine⟨by simp [aa,ah,aV,bV],by simp [aa,ah,aV,bV],by simp [aa,ah,aV,bV],by simp [aa,ah,aV,bV],by simp [aa,ah,aV,bV],by simp [aa,ah,aV,bV],by simp [aa,ah,aV,bV],by simp [aa,ah,aV,bV]⟩
open Tryz in
def Tryz.FFf691:=aj a1<|aj s1<|aj z1<|aj n1<|aj u2<|aj a2<|aj s2<|aj z2<|aj i2<|aj u3<|aj a3<|aj s3<|aj z3<|aj i3<|aj a59<|aj s59<|aj z59<|aj i59<|aj n59<|aj p59<|aj ff59<|d59
open Tryz in
def Tryz.FFf689:=aj a1<|aj s1<|aj z1<|aj n1<|aj u2<|aj a2<|aj s2<|aj z2<|aj i2<|aj u3<|aj a3<|aj s3<|aj z3<|aj i3<|aj a59<|aj s59<|aj z59<|aj i59<|aj n59<|aj p59<|aj ff59<|d59
open Tryz in
def Tryz.FFf642:=aj a1<|aj s1<|aj z1<|aj n1<|aj u2<|aj a2<|aj s2<|aj z2<|aj i2<|aj u3<|aj a3<|aj s3<|aj z3<|aj i3<|aj u25<|aj a25<|aj s25<|aj z25<|aj q25<|aj n25<|aj a30<|aj s30<|aj z30<|aj i30<|aj n30<|aj p30<|aj ff30<|aj d30<|aj u32<|aj a32<|aj s32<|aj z32<|aj q32<|aj i32<|aj n32<|aj u40<|aj a40<|aj s40<|aj z40<|aj q40<|aj n40<|aj a41<|aj s41<|aj z41<|aj n41<|aj u146<|aj a146<|aj s146<|aj z146<|aj q146<|aj n146<|aj a148<|aj s148<|aj z148<|aj i148<|aj n148<|aj p148<|aj ff148<|aj d148<|aj a149<|aj s149<|aj z149<|aj n149<|aj a158<|aj s158<|aj z158<|aj i158<|aj n158<|aj p158<|aj ff158<|d158
open Tryz in
def Tryz.FFf641:=aj a1<|aj s1<|aj z1<|aj n1<|aj u2<|aj a2<|aj s2<|aj z2<|aj i2<|aj u3<|aj a3<|aj s3<|aj z3<|aj i3<|aj u25<|aj a25<|aj s25<|aj z25<|aj q25<|aj n25<|aj a30<|aj s30<|aj z30<|aj i30<|aj n30<|aj p30<|aj ff30<|aj d30<|aj u32<|aj a32<|aj s32<|aj z32<|aj q32<|aj i32<|aj n32<|aj u40<|aj a40<|aj s40<|aj z40<|aj q40<|aj n40<|aj a41<|aj s41<|aj z41<|aj n41<|aj u146<|aj a146<|aj s146<|aj z146<|aj q146<|aj n146<|aj a148<|aj s148<|aj z148<|aj i148<|aj n148<|aj p148<|aj ff148<|aj d148<|aj a149<|aj s149<|aj z149<|aj n149<|aj a158<|aj s158<|aj z158<|aj i158<|aj n158<|aj p158<|aj ff158<|d158
theorem fromKey:KeyF xW 91 Arc.t:=by
 intro h0 a ok
 have S:=Si ok
 refine ac (n:=5) (rs:=[.tmp 2]) rfl Tryz.e91 rfl rfl rfl (lbt rfl) ?_
 simp only [BS,Nat.reduceLT,cI]
 refine ae (bE (by intro x e;cases e)) S ?_;clear S;intro h b S n_b;simp only [ag]at S
 simp only [BS,LB,ab,Nat.reduceLT,Nat.reduceEqDiff,Tryz.FFf691,S.ld (b:=b) (o:=1) m0 rfl]
 exact S.gr
theorem toKey:KeyF xW 89 Arc.s:=by
 intro h0 a ok
 have S:=Si ok
 refine ac (n:=5) (rs:=[.tmp 2]) rfl Tryz.e89 rfl rfl rfl (lbt rfl) ?_
 simp only [BS,Nat.reduceLT,cI]
 refine ae (bE (by intro x e;cases e)) S ?_;clear S;intro h b S n_b;simp only [ag]at S
 simp only [BS,LB,ab,Nat.reduceLT,Nat.reduceEqDiff,Tryz.FFf689,S.ld (b:=b) (o:=0) m0 rfl]
 exact S.gr
theorem fromNext{γ:Gra}(hγ:Good γ){pn:Value}:NextF xW 90 γ pn Arc.s:=fun h nb ok hn v hv=>ss ok hn (by have:=hγ.many;omega) hv
theorem toNext{γ:Gra}(hγ:Good γ){pn:Value}:NextF xW 88 γ pn Arc.t:=fun h nb ok hn v hv=>netIn_ok ok hn (by have:=hγ.many;omega) hv
theorem oL{h0:Hp}(ok:h0.t.Sized h0.n){γ:Gra}(hγ:Good γ){pn:Value}{nb:Nat}(hn:bT h0 nb pn γ){s:Nat}(hs:s<γ.nodes):
 Ret xW 42 [pn,.int .i64 s] h0 fun r h'=>Gr h0 h'/\qz h' h0.n r (seen γ.arcs Arc.s Arc.t) s γ.nodes:=by
 have S:=Si ok
 refine ac (n:=10) (rs:=[.cell 4 158]) rfl Tryz.e42 rfl rfl rfl (lbt rfl) ?_
 simp only [BS,Tryz.FFf642]
 refine ae aw S ?_;clear S;intro h b4 S n_b4
 simp only [BS,LB,Nat.reduceLT,Nat.reduceEqDiff]
 have k0:=S.fr.n
 have lt4:=(S.row (b:=b4) m0).lt S.ok
 refine step_ret (tW S.ok hγ (hn.gr S.gr) hs (fromNext hγ) fromKey (fun a ha=>(hγ.arcs a ha).2.1)) ?_;intro v h ⟨g,T⟩;replace S:=S.call g;clear g
 obtain⟨vD,vA,vO,D,aL,O,rfl,s1,s2,s3,t4,t5,t6,t7,t8⟩:=T
 have f1:=s1.fl
 have f2:=s2.fl
 have f3:=s3.fl
 have q1: ∀c,av vD c\/av vA c\/av vO c->c≠b4:=fun c hc e=>by have:=t6 c hc;omega
 simp only [BS,LB,Nat.reduceLT,Nat.reduceEqDiff]
 refine az (S.store (i:=0) rfl yK (by intro x e;cases e) rfl (by simp only [ag,yx,yA,f1.2.1,f2.2.1,f3.2.1,yi]) (lbt rfl) ono) ?_
 clear S;rintro h ⟨S,mo⟩
 simp only [LC,ag,lay,yg,yh,Nat.reduceAdd]at S
 simp only [BS,ab]
 refine(cF (by decide) (by simp only [aK,ah,Nat.reduceEqDiff,reduceIte];exact cm Tryz.a158 yK (S.lds (b:=b4) (o:=0) (n:=3) m0 (lbt rfl)))).2 (dr.2 ?_)
 exact⟨S.gr,vD,vA,vO,D,aL,O,rfl,s1.mo mo (fun c hc=>q1 c (.inl hc)),s2.mo mo (fun c hc=>q1 c (.inr (.inl hc))),s3.mo mo (fun c hc=>q1 c (.inr (.inr hc))),t4,t5,fun c hc=>xX k0 (t6 c hc),t7,t8⟩
theorem q8{h0:Hp}(ok:h0.t.Sized h0.n){γ:Gra}(hγ:Good γ){pn:Value}{nb:Nat}(hn:bT h0 nb pn γ){s:Nat}(hs:s<γ.nodes):
 Ret xW 41 [pn,.int .i64 s] h0 fun r h'=>Gr h0 h'/\qz h' h0.n r (seen γ.arcs Arc.t Arc.s) s γ.nodes:=by
 have S:=Si ok
 refine ac (n:=10) (rs:=[.cell 4 158]) rfl Tryz.e41 rfl rfl rfl (lbt rfl) ?_
 simp only [BS,Tryz.FFf641]
 refine ae aw S ?_;clear S;intro h b4 S n_b4
 simp only [BS,LB,Nat.reduceLT,Nat.reduceEqDiff]
 have k0:=S.fr.n
 have lt4:=(S.row (b:=b4) m0).lt S.ok
 refine step_ret (tW S.ok hγ (hn.gr S.gr) hs (toNext hγ) toKey (fun a ha=>(hγ.arcs a ha).1)) ?_;intro v h ⟨g,T⟩;replace S:=S.call g;clear g
 obtain⟨vD,vA,vO,D,aL,O,rfl,s1,s2,s3,t4,t5,t6,t7,t8⟩:=T
 have f1:=s1.fl
 have f2:=s2.fl
 have f3:=s3.fl
 have q1: ∀c,av vD c\/av vA c\/av vO c->c≠b4:=fun c hc e=>by have:=t6 c hc;omega
 simp only [BS,LB,Nat.reduceLT,Nat.reduceEqDiff]
 refine az (S.store (i:=0) rfl yK (by intro x e;cases e) rfl (by simp only [ag,yx,yA,f1.2.1,f2.2.1,f3.2.1,yi]) (lbt rfl) ono) ?_
 clear S;rintro h ⟨S,mo⟩
 simp only [LC,ag,lay,yg,yh,Nat.reduceAdd]at S
 simp only [BS,ab]
 refine(cF (by decide) (by simp only [aK,ah,Nat.reduceEqDiff,reduceIte];exact cm Tryz.a158 yK (S.lds (b:=b4) (o:=0) (n:=3) m0 (lbt rfl)))).2 (dr.2 ?_)
 exact⟨S.gr,vD,vA,vO,D,aL,O,rfl,s1.mo mo (fun c hc=>q1 c (.inl hc)),s2.mo mo (fun c hc=>q1 c (.inr (.inl hc))),s3.mo mo (fun c hc=>q1 c (.inr (.inr hc))),t4,t5,fun c hc=>xX k0 (t6 c hc),t7,t8⟩
end Go.Ab
end
section
namespace Go.Ab
theorem Wk.trans{B:List Arc}{a b c x y:Nat}(h:Wk B a b x)(k:Wk B b c y):Wk B a c (x+y):=by
 induction k with
 |nil=>exact h
 | @snoc w e he _ ih=>exact Wk.snoc' ih he rfl rfl (by omega)
theorem Wk.back{B C:List Arc}(hBC: ∀a∈B,∃b∈C,b.s=a.t/\b.t=a.s/\b.w=a.w){m v w x y:Nat}(h:Wk B v w x)(k:Wk C m w y):Wk C m v (x+y):=by
 induction h generalizing y with
 |nil=>rw [yo];exact k
 | @snoc z e he _ ih=>
   obtain⟨b,hb,e1,e2,e3⟩:=hBC e he
   have:=ih (Wk.snoc' k hb e1 e2 rfl)
   rw [e3]at this
   rw [show z+e.w+y=z+(y+e.w) by omega];exact this
theorem IsD.wk{B:List Arc}{s v x w:Nat}(h:IsD B s v x)(k:Wk B s v w):x<FAR/\x<=w/\Wk B s v x:=by
 rcases h with⟨a,b,c⟩|⟨a,b⟩
 . exact⟨a,c w k,b⟩
 . exact absurd k (b w)
theorem IsD.far{B:List Arc}{s v x:Nat}(h:IsD B s v x)(hx:x<FAR):Wk B s v x:=by
 rcases h with⟨a,b,c⟩|⟨a,b⟩
 . exact b
 . omega
theorem tri_to{B C:List Arc}(hBC: ∀a∈B,∃b∈C,b.s=a.t/\b.t=a.s/\b.w=a.w){m v w d p q:Nat}(hd:IsD B v w d)(hp:IsD C m v p)(hq:IsD C m w q)(h1:d<FAR)(h2:q<FAR):p<FAR/\p<=d+q:=by
 have:=hp.wk (Wk.back hBC (hd.far h1) (hq.far h2))
 exact⟨this.1,this.2.1⟩
theorem tri_fr{B:List Arc}{m v w d p q:Nat}(hd:IsD B v w d)(hp:IsD B m v p)(hq:IsD B m w q)(h1:d<FAR)(h2:p<FAR):q<FAR/\q<=p+d:=by
 have:=hq.wk ((hp.far h2).trans (hd.far h1))
 exact⟨this.1,this.2.1⟩
end Go.Ab

end
section
namespace Go.Ab
structure Ev where
 kind:Nat
 id:Nat
 lab:Nat
def dH(e:Ev):List Value:=[.int .i64 e.kind,.int .i64 0,.int .i64 e.id,.int .i64 e.lab]
theorem mi(e:Ev):(dH e).length=4:=rfl
structure SS where
 K:Nat->Option Int
 L:Nat->Nat
 P:Nat->List Nat
 O:List Nat
 ev:List Ev
structure Fd where
 dist:Nat
 arcs:List Nat
 ev:List Ev
def Pops(K:Nat->Option Int)(v:Nat)(k:Int):Prop:=K v=some k/\ ∀u k',K u=some k'->k<k'\/(k=k'/\v<=u)
theorem Pops.uniq{K:Nat->Option Int}{v u:Nat}{k k':Int}(h:Pops K v k)(g:Pops K u k'):v=u/\k=k':=by
 have a:=h.2 _ _ g.1
 have b:=g.2 _ _ h.1
 omega
def jC(P:Nat->List Nat)(v:Nat)(l:List Nat):Nat->List Nat:=fun u=>if u=v then l else P u
def cL(pi:Nat->Int)(σ:SS)(v lab:Nat)(p:List Nat):SS:=
 if v∈σ.O\/(FAR:Int)<=pi v\/((σ.K v).isSome=true/\σ.L v<=lab)then σ else⟨ca σ.K v (some (lab+pi v)),cJ σ.L v lab,jC σ.P v p,σ.O,σ.ev⟩
def cG(σ:SS)(v:Nat):SS:=⟨ca σ.K v none,σ.L,σ.P,σ.O++[v],σ.ev++[⟨0,v,σ.L v⟩]⟩
def evS(σ:SS)(e:Ev):SS:=⟨σ.K,σ.L,σ.P,σ.O,σ.ev++[e]⟩
def scan1(A:List Arc)(al:Nat->Bool)(pi:Nat->Int)(v:Nat)(σ:SS)(a:Nat):SS:=
 if al a=true then cL pi (evS σ ⟨1,a,0⟩) (A.getD a default).t (σ.L v+(A.getD a default).w) (a::σ.P v)else σ
def mw(A:List Arc)(al:Nat->Bool)(pi:Nat->Int)(v:Nat)(σ:SS):SS:=(outs A Arc.s A.length v).foldl (scan1 A al pi v) σ
def da(pi:Nat->Int)(s:Nat):SS:=cL pi ⟨fun _=>none,fun _=>0,fun _=>[],[],[]⟩ s 0 []
inductive Ends(A:List Arc)(al:Nat->Bool)(pi:Nat->Int)(to:Nat):SS->Fd->Prop where
 |none {σ:SS}:(∀v,σ.K v=none)->Ends A al pi to σ ⟨FAR,[],σ.ev⟩
 |hit {σ:SS} {k:Int}:Pops σ.K to k->Ends A al pi to σ ⟨σ.L to,(σ.P to).reverse,(cG σ to).ev⟩
 |step {σ:SS} {v:Nat} {k:Int} {r:Fd}:Pops σ.K v k->v≠to->Ends A al pi to (mw A al pi v (cG σ v)) r->Ends A al pi to σ r
theorem Ends.uniq{A:List Arc}{al:Nat->Bool}{pi:Nat->Int}{to:Nat}{σ:SS}{r q:Fd}(h:Ends A al pi to σ r)(g:Ends A al pi to σ q):r=q:=by
 induction h with
 | none hn=>
   cases g with
   |none _=>rfl
   |hit hp=>have:=hp.1;rw [hn]at this;cases this
   |step hp _ _=>have:=hp.1;rw [hn]at this;cases this
 | hit hp=>
   cases g with
   |none hn=>have:=hp.1;rw [hn]at this;cases this
   |hit _=>rfl
   |step hq hne _=>exact absurd (hq.uniq hp).1 hne
 | step hp hne _ ih=>
   cases g with
   |none hn=>have:=hp.1;rw [hn]at this;cases this
   |hit hq=>exact absurd (hp.uniq hq).1 hne
   | step hq _ hg=>
     obtain⟨rfl,_⟩:=hp.uniq hq
     exact ih hg
section
variable{A:List Arc}{N s:Nat}{al:Nat->Bool}{pi:Nat->Int}{σ:SS}
structure Sv(A:List Arc)(N s:Nat)(al:Nat->Bool)(pi:Nat->Int)(σ:SS):Prop where
 nd:σ.O.Nodup
 lt: ∀v∈σ.O,v<N
 op: ∀v k,σ.K v=some k->v<N/\v∉σ.O/\pi v<(FAR:Int)/\k=σ.L v+pi v
 bd: ∀v,σ.L v<=σ.O.length*cK/\(σ.P v).length<=σ.O.length
 pc: ∀v∈σ.O,pi v<(FAR:Int)
 path: ∀v,(v∈σ.O\/σ.K v≠none)->(v=s/\σ.P v=[]/\σ.L v=0)\/ ∃a,a<A.length/\al a=true/\(A.getD a default).t=v/\(A.getD a default).s∈σ.O/\σ.P v=a::σ.P (A.getD a default).s/\σ.L v=σ.L (A.getD a default).s+(A.getD a default).w
theorem Sv.len(h:Sv A N s al pi σ):σ.O.length<=N:=nN N σ.O h.nd h.lt
theorem Sv.evS(h:Sv A N s al pi σ)(e:Ev):Sv A N s al pi (evS σ e):=⟨h.nd,h.lt,h.op,h.bd,h.pc,h.path⟩
theorem nl(hs:s<N):Sv A N s al pi (da pi s):=by
 unfold da cL
 have z:Sv A N s al pi ⟨fun _=>none,fun _=>0,fun _=>[],[],[]⟩:=
  ⟨.nil,fun v h=>(by cases h),fun v k h=>(by cases h),fun v=>⟨yE _,yE _⟩,fun v h=>(by cases h),fun v h=>h.elim (fun h=>by cases h) (fun h=>absurd rfl h)⟩
 split
 . exact z
 . rename_i hc
   simp only [not_or]at hc
   refine⟨.nil,fun v h=>(by cases h),fun v k h=>?_,fun v=>⟨?_,?_⟩,fun v h=>(by cases h),fun v h=>?_⟩
   . simp only [ca,cJ]at h⊢
     split at h
     . rename_i e;subst e;cases h
       exact⟨hs,by simp,by omega,by simp⟩
     . cases h
   . simp only [cJ];split<;>simp
   . simp only [jC];split<;>simp
   . by_cases e:v=s
     . subst e;exact .inl ⟨rfl,by simp [jC],by simp [cJ]⟩
     . simp [ca,e]at h
structure jO(σ τ:SS):Prop where
 O:τ.O=σ.O
 L: ∀u∈σ.O,τ.L u=σ.L u
 P: ∀u∈σ.O,τ.P u=σ.P u
theorem jO.refl:jO σ σ:=⟨rfl,fun _ _=>rfl,fun _ _=>rfl⟩
theorem jO.trans{τ υ:SS}(h:jO σ τ)(g:jO τ υ):jO σ υ:=
 ⟨g.O.trans h.O,fun u hu=>(g.L u (by rw [h.O];exact hu)).trans (h.L u hu),fun u hu=>(g.P u (by rw [h.O];exact hu)).trans (h.P u hu)⟩
theorem Sv.reach(h:Sv A N s al pi σ){a lab v:Nat}{p:List Nat}(ha:a<A.length)(hal:al a=true)(ht:(A.getD a default).t=v)(hN:v<N)(hs:(A.getD a default).s∈σ.O)(hl:lab=σ.L (A.getD a default).s+(A.getD a default).w)(hp:p=a::σ.P (A.getD a default).s)
 (b1:lab<=σ.O.length*cK) (b2:p.length<=σ.O.length):Sv A N s al pi (cL pi σ v lab p)/\jO σ (cL pi σ v lab p):=by
 unfold cL
 split
 . exact⟨h,.refl⟩
 . rename_i hc
   simp only [not_or]at hc
   obtain⟨c1,c2,c3⟩:=hc
   have q: ∀u∈σ.O,u≠v:=fun u hu e=>c1 (by subst e;exact hu)
   refine⟨⟨h.nd,h.lt,fun u k hk=>?_,fun u=>⟨?_,?_⟩,h.pc,fun u hu=>?_⟩,⟨rfl,fun u hu=>by simp [cJ,q u hu],fun u hu=>by simp [jC,q u hu]⟩⟩
   . simp only [ca,cJ]at hk⊢
     split at hk
     . rename_i e;subst e;cases hk
       exact⟨hN,c1,by omega,by simp⟩
     . rename_i e
       rw [if_neg e];exact h.op u k hk
   . simp only [cJ];split
     . exact b1
     . exact(h.bd u).1
   . simp only [jC];split
     . exact b2
     . exact(h.bd u).2
   . have e1:cJ σ.L v lab (A.getD a default).s=σ.L (A.getD a default).s:=if_neg (q _ hs)
     have e2:jC σ.P v p (A.getD a default).s=σ.P (A.getD a default).s:=if_neg (q _ hs)
     by_cases e:u=v
     . subst e
       refine .inr ⟨a,ha,hal,ht,hs,?_,?_⟩
       . show jC σ.P u p u=a::jC σ.P u p (A.getD a default).s
         rw [e2,<-hp];exact if_pos rfl
       . show cJ σ.L u lab u=cJ σ.L u lab (A.getD a default).s+(A.getD a default).w
         rw [e1,<-hl];exact if_pos rfl
     . have hu':u∈σ.O\/σ.K u≠none:=by simpa [ca,e]using hu
       rcases h.path u hu' with⟨k1,k2,k3⟩|⟨b,k1,k2,k3,k4,k5,k6⟩
       . exact .inl ⟨k1,by simp [jC,e,k2],by simp [cJ,e,k3]⟩
       . refine .inr ⟨b,k1,k2,k3,k4,?_,?_⟩
         . simp only [jC,if_neg e,if_neg (q _ k4)];exact k5
         . simp only [cJ,if_neg e,if_neg (q _ k4)];exact k6
theorem Sv.close(h:Sv A N s al pi σ){v:Nat}{k:Int}(hk:σ.K v=some k):Sv A N s al pi (cG σ v):=by
 obtain⟨o1,o2,o3,o4⟩:=h.op v k hk
 have hl:(σ.O++[v]).length*cK=σ.O.length*cK+cK:=by rw [yL,yH,yV]
 refine⟨?_,fun u hu=>?_,fun u k' hu=>?_,fun u=>⟨?_,?_⟩,fun u hu=>?_,fun u hu=>?_⟩
 . show(σ.O++[v]).Nodup
   rw [List.nodup_append]
   exact⟨h.nd,by simp,fun a ha b hb e=>o2 (by simp at hb;subst hb;subst e;exact ha)⟩
 . rcases List.mem_append.1 hu with hu|hu
   . exact h.lt u hu
   . simp at hu;subst hu;exact o1
 . simp only [cG,ca]at hu⊢
   split at hu
   . cases hu
   . rename_i e
     obtain⟨a,b,c,d⟩:=h.op u k' hu
     exact⟨a,by simp [b,e],c,d⟩
 . show σ.L u<=(σ.O++[v]).length*cK
   rw [hl];have:=(h.bd u).1;omega
 . show(σ.P u).length<=(σ.O++[v]).length
   have:=(h.bd u).2;simp;omega
 . rcases List.mem_append.1 hu with hu|hu
   . exact h.pc u hu
   . simp at hu;subst hu;exact o3
 . have hu':u∈σ.O\/σ.K u≠none:=by
    by_cases e:u=v
    . subst e;exact .inr (by rw [hk];nofun)
    . simpa [cG,ca,e]using hu
   rcases h.path u hu' with hq|⟨b,k1,k2,k3,k4,k5,k6⟩
   . exact .inl hq
   . exact .inr ⟨b,k1,k2,k3,ya _ k4,k5,k6⟩
def Room(σ:SS)(v:Nat):Prop:=v∈σ.O/\σ.L v+cK<=σ.O.length*cK/\(σ.P v).length+1<=σ.O.length
theorem Room.keeps{τ:SS}{v:Nat}(r:Room σ v)(k:jO σ τ):Room τ v:=by
 obtain⟨a,b,c⟩:=r
 exact⟨by rw [k.O];exact a,by rw [k.O,k.L v a];exact b,by rw [k.O,k.P v a];exact c⟩
theorem Sv.room(h:Sv A N s al pi σ)(v:Nat):Room (cG σ v) v:=by
 have:=h.bd v
 refine⟨yd _ (by simp),?_,?_⟩
 . show σ.L v+cK<=(σ.O++[v]).length*cK
   rw [yL,yH,yV];omega
 . show(σ.P v).length+1<=(σ.O++[v]).length
   simp;omega
theorem Sv.scan1(h:Sv A N s al pi σ)(hA: ∀a∈A,a.t<N/\a.w<=cK){v a:Nat}(r:Room σ v)(ha:a<A.length)(hv:(A.getD a default).s=v):Sv A N s al pi (scan1 A al pi v σ a)/\jO σ (scan1 A al pi v σ a):=by
 unfold Ab.scan1
 split
 . rename_i hal
   obtain⟨r1,r2,r3⟩:=r
   have ok:=hA (A.getD a default) (by rw [xY,xZ ha];exact yl ha)
   subst hv
   obtain⟨h1,h2⟩:=(h.evS ⟨1,a,0⟩).reach (p:=a::σ.P (A.getD a default).s) (lab:=σ.L (A.getD a default).s+(A.getD a default).w) ha hal rfl ok.1 r1 rfl rfl (by show _<=σ.O.length*cK;omega) (by show(σ.P _).length+1<=σ.O.length;exact r3)
   exact⟨h1,⟨h2.O,h2.L,h2.P⟩⟩
 . exact⟨h,.refl⟩
theorem Sv.scanL(hA: ∀a∈A,a.t<N/\a.w<=cK){v:Nat}: ∀(l:List Nat) {σ:SS},Sv A N s al pi σ->Room σ v->(∀a∈l,a<A.length/\(A.getD a default).s=v)->Sv A N s al pi (l.foldl (Ab.scan1 A al pi v) σ)/\jO σ (l.foldl (Ab.scan1 A al pi v) σ)
 | [],_,h,_,_=>⟨h,.refl⟩
 | a::l,σ,h,r,hl=>by
   obtain⟨h1,h2⟩:=h.scan1 hA r (hl a (by simp)).1 (hl a (by simp)).2
   obtain⟨h3,h4⟩:=Sv.scanL hA l h1 (r.keeps h2) (fun b hb=>hl b (by simp [hb]))
   exact⟨h3,h2.trans h4⟩
theorem Sv.next(h:Sv A N s al pi σ)(hA: ∀a∈A,a.t<N/\a.w<=cK){v:Nat}{k:Int}(hk:σ.K v=some k):Sv A N s al pi (mw A al pi v (cG σ v))/\jO (cG σ v) (mw A al pi v (cG σ v)):=
 Sv.scanL hA _ (h.close hk) (h.room v) (fun _ ha=>im.1 ha)

def InH(A:List Arc)(al:Nat->Bool)(pi:Nat->Int)(a:Nat):Prop:=al a=true/\pi (A.getD a default).s<(FAR:Int)/\pi (A.getD a default).t<(FAR:Int)
instance (a:Nat):Decidable (InH A al pi a):=by unfold InH;infer_instance
def jj(A:List Arc)(al:Nat->Bool)(pi:Nat->Int):List Arc:=((yb A.length).filter fun a=>decide (InH A al pi a)).map fun a=>A.getD a default
theorem k8{a:Arc}:a∈jj A al pi↔ ∃i,i<A.length/\InH A al pi i/\A.getD i default=a:=by
 unfold jj
 simp only [List.mem_map,List.mem_filter,List.mem_range,decide_eq_true_eq,and_assoc]
def Feas(A:List Arc)(al:Nat->Bool)(pi:Nat->Int):Prop:= ∀i,i<A.length->InH A al pi i->pi (A.getD i default).s<=(A.getD i default).w+pi (A.getD i default).t
theorem Sv.wk(h:Sv A N s al pi σ): ∀(n:Nat) {v:Nat},(σ.P v).length<=n->(v∈σ.O\/σ.K v≠none)->Wk (jj A al pi) s v (σ.L v):=by
 have pv: ∀v,(v∈σ.O\/σ.K v≠none)->pi v<(FAR:Int):=fun v hv=>hv.elim (h.pc v) (fun hv=>by
  cases hk:σ.K v with
  |none=>exact absurd hk hv
  |some k=>exact(h.op v k hk).2.2.1)
 intro n
 induction n with
 | zero=>
   intro v hn hv
   rcases h.path v hv with⟨rfl,_,e⟩|⟨a,_,_,_,_,e,_⟩
   . rw [e];exact .nil
   . rw [e]at hn;simp at hn
 | succ n ih=>
   intro v hn hv
   rcases h.path v hv with⟨rfl,_,e⟩|⟨a,k1,k2,k3,k4,k5,k6⟩
   . rw [e];exact .nil
   . rw [k5]at hn
     rw [k6]
     exact Wk.snoc' (ih (v:=(A.getD a default).s) (by simpa using hn) (.inl k4)) (k8.2 ⟨a,k1,⟨k2,h.pc _ k4,by rw [k3];exact pv v hv⟩,rfl⟩) rfl k3 rfl
structure Fe(A:List Arc)(s:Nat)(al:Nat->Bool)(pi:Nat->Int)(σ:SS)(ex:Nat->Prop):Prop where
 opt: ∀v∈σ.O,∀w,Wk (jj A al pi) s v w->σ.L v<=w
 fr: ∀a,a<A.length->InH A al pi a->(A.getD a default).s∈σ.O-> ¬ex a->(A.getD a default).t∈σ.O\/(σ.K (A.getD a default).t≠none/\σ.L (A.getD a default).t<=σ.L (A.getD a default).s+(A.getD a default).w)
 st:s∈σ.O\/(σ.K s≠none/\σ.L s=0)
theorem fe_init(hp:pi s<(FAR:Int)):Fe A s al pi (da pi s) (fun _=>False):=by
 have e:da pi s=⟨ca (fun _=>none) s (some ((0:Nat)+pi s)),cJ (fun _=>0) s 0,jC (fun _=>[]) s [],[],[]⟩:=by
  unfold da cL
  rw [if_neg (by simp;omega)]
 rw [e]
 exact⟨fun v h=>(by cases h),fun a _ _ h=>(by cases h),.inr ⟨by simp [ca],by simp [cJ]⟩⟩
theorem Fe.front(f:Fe A s al pi σ (fun _=>False))(h:Sv A N s al pi σ)(hF:Feas A al pi){x w:Nat}(k:Wk (jj A al pi) s x w):x∈σ.O\/ ∃y,σ.K y≠none/\(σ.L y:Int)+pi y<=w+pi x:=by
 induction k with
 |nil=>exact f.st.imp (fun h=>h) (fun⟨a,b⟩=>⟨s,a,by rw [b];omega⟩)
 | @snoc w a ha hw ih=>
   obtain⟨i,hi,hh,rfl⟩:=k8.1 ha
   have fe:=hF i hi hh
   rcases ih with ih|⟨y,h1,h2⟩
   . rcases f.fr i hi hh ih (fun h=>h)with h1|⟨h1,h2⟩
     . exact .inl h1
     . have:=f.opt _ ih _ hw
       exact .inr ⟨_,h1,by omega⟩
   . exact .inr ⟨y,h1,by omega⟩
theorem Fe.popped(f:Fe A s al pi σ (fun _=>False))(h:Sv A N s al pi σ)(hF:Feas A al pi){v:Nat}{k:Int}(hp:Pops σ.K v k):
 (∀w,Wk (jj A al pi) s v w->σ.L v<=w)/\ ∀x w,x∉σ.O->Wk (jj A al pi) s x w->(σ.L v:Int)+pi v<=w+pi x:=by
 have key: ∀x w,x∉σ.O->Wk (jj A al pi) s x w->(σ.L v:Int)+pi v<=w+pi x:=fun x w hx hw=>by
  rcases f.front h hF hw with h1|⟨y,h1,h2⟩
  . exact absurd h1 hx
  . cases hk:σ.K y with
    |none=>exact absurd hk h1
    | some k'=>
      have a:=(h.op y k' hk).2.2.2
      have b:=(h.op v k hp.1).2.2.2
      have c:=hp.2 y k' hk
      omega
 refine⟨fun w hw=>?_,key⟩
 have:=key v w (h.op v k hp.1).2.1 hw
 omega
theorem Fe.close(f:Fe A s al pi σ (fun _=>False))(h:Sv A N s al pi σ)(hF:Feas A al pi){v:Nat}{k:Int}(hp:Pops σ.K v k):Fe A s al pi (cG σ v) (fun a=>(A.getD a default).s=v):=by
 have pv:=(f.popped h hF hp).1
 refine⟨fun u hu=>?_,fun a ha hh hs hx=>?_,?_⟩
 . rcases List.mem_append.1 hu with hu|hu
   . exact f.opt u hu
   . simp at hu;subst hu;exact pv
 . rcases List.mem_append.1 hs with hs|hs
   . rcases f.fr a ha hh hs (fun h=>h)with h1|⟨h1,h2⟩
     . exact .inl (ya _ h1)
     . by_cases e:(A.getD a default).t=v
       . exact .inl (yd _ (List.mem_singleton.2 e))
       . exact .inr ⟨by simp only [cG,ca];rw [if_neg e];exact h1,h2⟩
   . simp at hs;exact absurd hs hx
 . rcases f.st with h1|⟨h1,h2⟩
   . exact .inl (ya _ h1)
   . by_cases e:s=v
     . exact .inl (yd _ (List.mem_singleton.2 e))
     . exact .inr ⟨by simp only [cG,ca];rw [if_neg e];exact h1,h2⟩
theorem Fe.reach{ex ex':Nat->Prop}(f:Fe A s al pi σ ex){a v lab:Nat}{p:List Nat}(ht:(A.getD a default).t=v)(hl:lab=σ.L (A.getD a default).s+(A.getD a default).w)(hx: ∀b,¬ex' b-> ¬ex b\/(b=a)):Fe A s al pi (cL pi σ v lab p) ex':=by
 unfold cL
 split
 . rename_i hc
   refine⟨f.opt,fun b hb hh hs hbx=>?_,f.st⟩
   rcases hx b hbx with h1|rfl
   . exact f.fr b hb hh hs h1
   . rw [ht]
     rcases hc with hc|hc|⟨h1,h2⟩
     . exact .inl hc
     . have:=hh.2.2;rw [ht]at this;omega
     . exact .inr ⟨fun e=>(by rw [e]at h1;cases h1),by omega⟩
 . rename_i hc
   simp only [not_or]at hc
   obtain⟨c1,c2,c4⟩:=hc
   have c3:=fun h1 h2=>c4 ⟨h1,h2⟩
   have q: ∀u∈σ.O,u≠v:=fun u hu e=>c1 (by subst e;exact hu)
   refine⟨fun u hu=>?_,fun b hb hh hs hbx=>?_,?_⟩
   . simp only [cJ,if_neg (q u hu)];exact f.opt u hu
   . simp only [cJ,ca,if_neg (q _ hs)]
     by_cases e:(A.getD b default).t=v
     . right
       simp only [e,if_true]
       refine⟨by nofun,?_⟩
       rcases hx b hbx with h1|rfl
       . rcases f.fr b hb hh hs h1 with h2|⟨h2,h3⟩
         . rw [e]at h2;exact absurd h2 c1
         . rw [e]at h2 h3
           have: ¬σ.L v<=lab:=c3 (by cases hk:σ.K v with|none=>exact absurd hk h2|some k=>rfl)
           omega
       . omega
     . simp only [if_neg e]
       rcases hx b hbx with h1|rfl
       . exact f.fr b hb hh hs h1
       . exact absurd ht e
   . rcases f.st with h1|⟨h1,h2⟩
     . exact .inl h1
     . by_cases e:s=v
       . subst e
         have: ¬σ.L s<=lab:=c3 (by cases hk:σ.K s with|none=>exact absurd hk h1|some k=>rfl)
         omega
       . exact .inr ⟨by simp only [ca,if_neg e];exact h1,by simp only [cJ,if_neg e];exact h2⟩
theorem Fe.exm{ex ex':Nat->Prop}(f:Fe A s al pi σ ex)(h: ∀a,a<A.length->ex a->ex' a):Fe A s al pi σ ex':=
 ⟨f.opt,fun a ha hh hs hx=>f.fr a ha hh hs (fun he=>hx (h a ha he)),f.st⟩
theorem Fe.scan1{ex ex':Nat->Prop}(f:Fe A s al pi σ ex){a v:Nat}(hv:(A.getD a default).s=v)(hx: ∀b,¬ex' b-> ¬ex b\/(b=a)):Fe A s al pi (scan1 A al pi v σ a) ex':=by
 unfold Ab.scan1
 split
 . subst hv
   exact Fe.reach (σ:=evS σ ⟨1,a,0⟩) ⟨f.opt,f.fr,f.st⟩ rfl rfl hx
 . rename_i hal
   refine⟨f.opt,fun b hb hh hs hbx=>?_,f.st⟩
   rcases hx b hbx with h|rfl
   . exact f.fr b hb hh hs h
   . exact absurd hh.1 hal
theorem Fe.scanL{v:Nat}: ∀(l:List Nat) {σ:SS},Fe A s al pi σ (· ∈l)->(∀a∈l,(A.getD a default).s=v)->Fe A s al pi (l.foldl (Ab.scan1 A al pi v) σ) (fun _=>False)
 | [],_,f,_=>f.exm (fun a _ h=>by cases h)
 |a::l,σ,f,hl=>Fe.scanL l (f.scan1 (a:=a) (hl a (by simp)) (fun b hb=>by by_cases e:b=a;exact .inr e;exact .inl (by simp [e,hb]))) (fun b hb=>hl b (by simp [hb]))
theorem Fe.next(f:Fe A s al pi σ (fun _=>False))(h:Sv A N s al pi σ)(hF:Feas A al pi){v:Nat}{k:Int}(hp:Pops σ.K v k):Fe A s al pi (mw A al pi v (cG σ v)) (fun _=>False):=
 Fe.scanL _ ((f.close h hF hp).exm fun a ha hs=>im.2 ⟨ha,hs⟩) (fun a ha=>(im.1 ha).2)
theorem ends_isD{to:Nat}{r:Fd}(hA: ∀a∈A,a.t<N/\a.w<=cK)(hN:N<=12)(hF:Feas A al pi)(he:Ends A al pi to σ r):Sv A N s al pi σ->Fe A s al pi σ (fun _=>False)->to∉σ.O->IsD (jj A al pi) s to r.dist:=by
 induction he with
 | none hn=>
   intro h f ht
   refine .inr ⟨rfl,fun w hw=>?_⟩
   rcases f.front h hF hw with h1|⟨y,h1,_⟩
   . exact ht h1
   . exact h1 (hn y)
 | @hit σ k hp=>
   intro h f ht
   have h1:=h.wk _ (yD _) (v:=to) (.inr (by rw [hp.1];nofun))
   have h2:=(h.bd to).1
   have h3:=yw cK (xX h.len hN)
   have:=dX
   have:=kC
   exact .inl ⟨by show σ.L to<FAR;omega,h1,(f.popped h hF hp).1⟩
 | @step σ v k r hp hne _ ih=>
   intro h f ht
   obtain⟨h1,h2⟩:=h.next hA hp.1
   refine ih h1 (f.next h hF hp) ?_
   rw [h2.O]
   intro hm
   rcases List.mem_append.1 hm with hm|hm
   . exact ht hm
   . simp at hm;exact hne hm.symm
theorem Wk.mono{B C:List Arc}(hm: ∀a∈B,a∈C){v w:Nat}(h:Wk B s v w):Wk C s v w:=by
 induction h with
 |nil=>exact .nil
 |snoc ha _ ih=>exact .snoc (hm _ ha) ih
theorem IsD.congr{B C:List Arc}(hm: ∀a,a∈B↔a∈C){v x:Nat}(h:IsD B s v x):IsD C s v x:=by
 rcases h with⟨a,b,c⟩|⟨a,b⟩
 . exact .inl ⟨a,b.mono fun a=>(hm a).1,fun w hw=>c w (hw.mono fun a=>(hm a).2)⟩
 . exact .inr ⟨a,fun w hw=>b w (hw.mono fun a=>(hm a).2)⟩
end
end Go.Ab

end
section
namespace Go.Ab
open Go.Proofs
set_option maxRecDepth 10000
open Tryz in
def Tryz.FFs1138:=aj a1<|aj s1<|aj z1<|aj n1<|aj u2<|aj a2<|aj s2<|aj z2<|aj i2<|aj u3<|aj a3<|aj s3<|aj z3<|aj i3<|aj u4<|aj a4<|aj s4<|aj z4<|aj n4<|aj u5<|aj a5<|aj s5<|aj z5<|aj i5<|aj u6<|aj a6<|aj s6<|aj z6<|aj i6<|aj u25<|aj a25<|aj s25<|aj z25<|aj q25<|aj n25<|aj u32<|aj a32<|aj s32<|aj z32<|aj q32<|aj i32<|aj n32<|aj u40<|aj a40<|aj s40<|aj z40<|aj q40<|aj n40<|aj u44<|aj a44<|aj s44<|aj z44<|aj i44<|aj u47<|aj a47<|aj s47<|aj z47<|aj q47<|aj n47<|aj u55<|aj a55<|aj s55<|aj z55<|aj q55<|aj n55<|aj a57<|aj s57<|aj z57<|aj i57<|aj n57<|aj p57<|aj ff57<|aj d57<|aj a148<|aj s148<|aj z148<|aj i148<|aj n148<|aj p148<|aj ff148<|aj d148<|aj a154<|aj s154<|aj z154<|aj n154<|aj u162<|aj a162<|aj s162<|aj z162<|aj q162<|aj i162<|aj n162<|aj a169<|aj s169<|aj z169<|aj n169<|aj u203<|aj a203<|aj s203<|aj z203<|aj q203<|aj i203<|aj n203<|aj a218<|aj s218<|aj z218<|aj i218<|aj n218<|aj p218<|aj ff218<|aj d218<|aj a248<|aj s248<|aj z248<|aj i248<|aj n248<|aj p248<|aj ff248<|aj d248<|aj a250<|aj s250<|aj z250<|aj i250<|aj n250<|aj p250<|aj ff250<|d250
def labC(N:Nat)(L:Nat->Nat):List Value:=(yb N).map fun v=>.int .i64 (L v:Nat)
def byI:List Nat->Int
 | []=> -1
 |a::_=>(a:Nat)
def byC(N:Nat)(P:Nat->List Nat):List Value:=(yb N).map fun v=>.int .i64 (byI (P v))
def clC(N:Nat)(O:List Nat):List Value:=(yb N).map fun v=>.bool (decide (v∈O))
theorem pf{N v:Nat}{L:Nat->Nat}(h:v<N):(labC N L)[v]? =some (.int .i64 (L v:Nat)):=gL (F:=fun v=>Value.int .i64 ((L v:Nat):Int)) h
theorem byC_at{N v:Nat}{P:Nat->List Nat}(h:v<N):(byC N P)[v]? =some (.int .i64 (byI (P v))):=gL (F:=fun v=>Value.int .i64 (byI (P v))) h
theorem clC_at{N v:Nat}{O:List Nat}(h:v<N):(clC N O)[v]? =some (.bool (decide (v∈O))):=gL (F:=fun v=>Value.bool (decide (v∈O))) h
theorem uo{N:Nat}{L:Nat->Nat}:(labC N L).length=N:=by simp [labC]
theorem byC_len{N:Nat}{P:Nat->List Nat}:(byC N P).length=N:=by simp [byC]
theorem clC_len{N:Nat}{O:List Nat}:(clC N O).length=N:=by simp [clC]
theorem labC_set{N v x:Nat}{L:Nat->Nat}:(labC N L).set v (.int .i64 (x:Nat))=labC N (cJ L v x):=by
 have:=ij (N:=N) (k:=v) (F:=fun v=>Value.int .i64 ((L v:Nat):Int)) (F':=fun u=>Value.int .i64 ((cJ L v x u:Nat):Int)) (fun i _ hi=>by simp [cJ,hi])
 unfold labC
 rw [<-this];simp [cJ]
theorem byC_set{N v:Nat}{P:Nat->List Nat}{p:List Nat}:(byC N P).set v (.int .i64 (byI p))=byC N (jC P v p):=by
 have:=ij (N:=N) (k:=v) (F:=fun v=>Value.int .i64 (byI (P v))) (F':=fun u=>Value.int .i64 (byI (jC P v p u))) (fun i _ hi=>by simp [jC,hi])
 unfold byC
 rw [<-this];simp [jC]
theorem clC_set{N v:Nat}{O:List Nat}:(clC N O).set v (.bool true)=clC N (O++[v]):=by
 have:=ij (N:=N) (k:=v) (F:=fun v=>Value.bool (decide (v∈O))) (F':=fun u=>Value.bool (decide (u∈O++[v]))) (fun i _ hi=>by simp [hi])
 unfold clC
 rw [<-this];simp
def srL(br bl bb bk N:Nat)(pn p fal fpi vE:Value)(σ:SS):List (Nat×Ob):=
 [(br,.row [pn,p,.slice (some ⟨bl,0,none⟩) N N,.slice (some ⟨bb,0,none⟩) N N,.slice (some ⟨bk,0,none⟩) N N,fal,fpi,vE] 1),(bl,.row (labC N σ.L) 1),(bb,.row (byC N σ.P) 1),(bk,.row (clC N σ.O) 1)]
def srG(vE:Value)(σ:SS):List GL:=[(vE,4,σ.ev.flatMap dH)]
def eU(h:Hp)(B:List Nat)(br:Nat)(pn fal fpi:Value)(N:Nat)(σ:SS):Prop:=
 ∃bl bb bk p F vE,B=keys (srL br bl bb bk N pn (ptrTo p) fal fpi vE σ) (srG vE σ)++F/\(∀q∈srL br bl bb bk N pn (ptrTo p) fal fpi vE σ,Has h q.1 q.2)/\eQ h (vE,4,σ.ev.flatMap dH)/\(keys (srL br bl bb bk N pn (ptrTo p) fal fpi vE σ) (srG vE σ)).Nodup/\cy h F (ptrTo p) N σ.K/\ ∀c∈F,c∉keys (srL br bl bb bk N pn (ptrTo p) fal fpi vE σ) (srG vE σ)
theorem St.ofHas{M:Nat->Prop}{h:Hp}{L:List (Nat×Ob)}{G:List GL}(ok:h.t.Sized h.n)(hL: ∀q∈L,Has h q.1 q.2)(hG: ∀p∈G,eQ h p)(nd:(keys L G).Nodup)(hM: ∀c∈keys L G,M c):St M h h L G:=
 ⟨Mo.refl ok,fun p hp=>⟨.inr (hM _ (ie hp)),hL p hp⟩,fun p hp=>⟨hG p hp,fun b hb=>.inr (hM _ (fi hp hb))⟩,nd⟩
theorem eU.mo{M:Nat->Prop}{h h':Hp}{B:List Nat}{br N:Nat}{pn fal fpi:Value}{σ:SS}(r:eU h B br pn fal fpi N σ)(g:Mo M h h')(hm: ∀b∈B,¬M b):eU h' B br pn fal fpi N σ:=by
 obtain⟨bl,bb,bk,p,F,vE,rfl,h1,h2,h3,h4,h5⟩:=r
 refine⟨bl,bb,bk,p,F,vE,rfl,fun q hq=>g.has (h1 q hq) (hm _ (ya _ (ie hq))),h2.of_get fun b hb=>g.get b (h2.lt g.ok0 hb) (hm b (ya _ (fi (p:=(vE,4,σ.ev.flatMap dH)) m0 hb))),h3,h4.mo g (fun b hb=>hm b (yd _ hb)),h5⟩
theorem eU.gr{h h':Hp}{B:List Nat}{br N:Nat}{pn fal fpi:Value}{σ:SS}(r:eU h B br pn fal fpi N σ)(g:Gr h h'):eU h' B br pn fal fpi N σ:=r.mo (M:=NoM) g.fr (fun _ _ h=>h)
theorem eU.lt{h:Hp}(ok:h.t.Sized h.n){B:List Nat}{br N:Nat}{pn fal fpi:Value}{σ:SS}(r:eU h B br pn fal fpi N σ): ∀c∈B,c<h.n:=by
 obtain⟨bl,bb,bk,p,F,vE,rfl,h1,h2,h3,h4,h5⟩:=r
 intro c hc
 rcases List.mem_append.1 hc with hc|hc
 . exact(St.ofHas (M:=fun _=>True) ok h1 (fun p hp=>by cases hp with|head=>exact h2|tail _ h=>cases h) h3 (fun _ _=>trivial)).key_lt hc
 . exact h4.lt ok c hc
theorem Gr.mo'{hq h h':Hp}{B:List Nat}(g:Gr hq h)(f:Mo (· ∈B) h h')(hB: ∀c∈B,hq.n<=c):Gr hq h':=((g.fr (M:=NoM)).trans f (fun i hi=>.inr (hB i hi))).gr
def PiF(E:Env)(hq:Hp)(g:FuncId)(ba N:Nat)(pi:Nat->Int):Prop:= ∀h,Gr hq h-> ∀v,v<N->bC E g [.int .i64 (v:Nat),ptrTo ba] h (.int .i64 (pi v))
def AlF(E:Env)(hq:Hp)(g:FuncId)(ba n:Nat)(al:Nat->Bool):Prop:= ∀h,Gr hq h-> ∀a,a<n->bC E g [.int .i64 (a:Nat),ptrTo ba] h (.bool (al a))
theorem sy {hq h0:Hp} (gq:Gr hq h0) {B:List Nat} {br N ba v lab:Nat} {p:List Nat} {g2:FuncId} {pn fal:Value} {σ:SS} {pi:Nat->Int} (R:eU h0 B br pn fal (.func (.func g2) #[] #[ptrTo ba]) N σ) (hpi:PiF xW hq g2 ba N pi) (hN:N<=12) (hv:v<N) (hl:lab<=12*cK)
 (hp: -(FAR:Int)<=pi v) (hk: ∀k,σ.K v=some k->k=σ.L v+pi v):
 Ret xW 138 [ptrTo br,.int .i64 (v:Nat),.int .i64 (lab:Nat),.int .i64 (byI p)] h0 fun _ h'=>Mo (· ∈B) h0 h'/\ ∃B',eU h' B' br pn fal (.func (.func g2) #[] #[ptrTo ba]) N (cL pi σ v lab p)/\ ∀c∈B',c∈B\/h0.n<=c:=by
 have ok:=gq.ok
 have R0:=R
 obtain⟨bl,bb,bk,ph,F,vE,rfl,hL,hG,nd,H,hF⟩:=R
 have S:=St.ofHas (M:=fun c=>c∈keys (srL br bl bb bk N pn (ptrTo ph) fal (.func (.func g2) #[] #[ptrTo ba]) vE σ) (srG vE σ)++F) ok hL (fun p hp=>by cases hp with|head=>exact hG|tail _ h=>cases h) nd (fun c hc=>ya _ hc)
 have fr:=dX
 have wm:=kC
 have same:cL pi σ v lab p=σ-> ∀h,Gr h0 h->Mo (· ∈keys (srL br bl bb bk N pn (ptrTo ph) fal (.func (.func g2) #[] #[ptrTo ba]) vE σ) (srG vE σ)++F) h0 h/\ ∃B',eU h B' br pn fal (.func (.func g2) #[] #[ptrTo ba]) N (cL pi σ v lab p)/\ ∀c∈B',c∈keys (srL br bl bb bk N pn (ptrTo ph) fal (.func (.func g2) #[] #[ptrTo ba]) vE σ) (srG vE σ)++F\/h0.n<=c:=
  fun e h g=>⟨g.fr,_,by rw [e];exact R0.gr g,fun c hc=>.inl hc⟩
 generalize hBB:keys (srL br bl bb bk N pn (ptrTo ph) fal (.func (.func g2) #[] #[ptrTo ba]) vE σ) (srG vE σ)++F=BB at S same
 have hFB: ∀c∈F,c∈BB\/h0.n<=c:=fun c hc=>.inl (by rw [<-hBB];exact yd _ hc)
 unfold srL srG at S
 have lF:=H.lt ok
 have ll:=fun {b} hb=>S.key_lt (b:=b) hb
 refine ac (n:=86) (rs:=[]) rfl Tryz.e138 rfl rfl rfl (lbt rfl) ?_
 simp only [BS,LB,Nat.reduceLT,Nat.reduceEqDiff,Tryz.FFs1138,S.ld (b:=br) (o:=6) m0 rfl]
 refine ar (hpi _ gq v hv) ?_;intro h g;replace S:=S.call g;replace H:=H.gr g
 simp only [BS,LB,Nat.reduceLT,Nat.reduceEqDiff,Tryz.FFs1138,S.ld (b:=br) (o:=1) m0 rfl]
 refine ar (rI S.ok H) ?_;intro h' g';replace S:=S.call g';replace H:=H.gr g';replace g:=g.trans g';clear g' h
 have n0:=g.n
 have lk:=(S.row (b:=bk) m3).load1 (clC_at (O:=σ.O) hv)
 have lL:=(S.row (b:=bl) m1).load1 (pf (L:=σ.L) hv)
 by_cases hO:v∈σ.O
 . have dO:decide (v∈σ.O)=true:=decide_eq_true hO
   simp only [BS,LB,Nat.reduceLT,Nat.reduceEqDiff,Tryz.FFs1138,hv,lk,dO,S.ld (b:=br) (o:=4) m0 rfl,S.ld (b:=br) (o:=2) m0 rfl]
   exact same (by unfold cL;rw [if_pos (.inl hO)]) _ g
 . have dO:decide (v∈σ.O)=false:=decide_eq_false hO
   by_cases hpF:(FAR:Int)<=pi v
   . have c1:(72057594037927936:Int)<=pi v:=by omega
     simp only [BS,LB,Nat.reduceLT,Nat.reduceEqDiff,Tryz.FFs1138,hv,lk,dO,c1,S.ld (b:=br) (o:=4) m0 rfl,S.ld (b:=br) (o:=2) m0 rfl]
     exact same (by unfold cL;rw [if_pos (.inr (.inl hpF))]) _ g
   . have c1: ¬(72057594037927936:Int)<=pi v:=by omega
     have wl:au .i64 ((lab:Int)+pi v)=(lab:Int)+pi v:=by rw [wrap64]<;>omega
     have fin: ¬((σ.K v).isSome=true/\σ.L v<=lab)-> ∀(h':Hp) (F':List Nat),St (· ∈BB) h0 h' [(br,.row [pn,ptrTo ph,.slice (some ⟨bl,0,none⟩) N N,.slice (some ⟨bb,0,none⟩) N N,.slice (some ⟨bk,0,none⟩) N N,fal,.func (.func g2) #[] #[ptrTo ba],vE] 1),(bl,.row ((labC N σ.L).set v (.int .i64 (lab:Nat))) 1),(bb,.row ((byC N σ.P).set v (.int .i64 (byI p))) 1),(bk,.row (clC N σ.O) 1)] [(vE,4,σ.ev.flatMap dH)]->
      cy h' F' (ptrTo ph) N (ca σ.K v (some ((lab:Int)+pi v)))->(∀c∈F',c∈F\/h0.n<=c)->Mo (· ∈BB) h0 h'/\ ∃B',eU h' B' br pn fal (.func (.func g2) #[] #[ptrTo ba]) N (cL pi σ v lab p)/\ ∀c∈B',c∈BB\/h0.n<=c:=by
      intro hc h' F' T H' hF'
      rw [labC_set,byC_set]at T
      refine⟨T.fr,keys (srL br bl bb bk N pn (ptrTo ph) fal (.func (.func g2) #[] #[ptrTo ba]) vE σ) (srG vE σ)++F',?_,fun c hc=>?_⟩
      . unfold cL
        rw [if_neg (by simp only [not_or];exact⟨hO,hpF,hc⟩)]
        refine⟨bl,bb,bk,ph,F',vE,rfl,fun q hq=>(T.own q hq).2,(T.gown _ m0).1,T.apart,H',fun c hc hm=>?_⟩
        rcases hF' c hc with h1|h1
        . exact hF c h1 hm
        . have:=ll (b:=c) hm;omega
      . rcases List.mem_append.1 hc with hc|hc
        . exact .inl (by rw [<-hBB];exact ya _ hc)
        . rcases hF' c hc with h1|h1
          . exact .inl (by rw [<-hBB];exact yd _ h1)
          . exact .inr h1
     have hne: ∀F':List Nat,(∀c∈F',c∈F\/h0.n<=c)-> ∀c∈F',¬(c=bl)/\ ¬(c=bb):=fun F' h c hc=>by
      rcases h c hc with h1|h1
      . have:=hF c h1
        simp [srL,keys]at this
        exact⟨this.2.1,this.2.2.1⟩
      . have h2:=ll (b:=bl) (by simp [keys])
        have h3:=ll (b:=bb) (by simp [keys])
        exact⟨fun e=>by omega,fun e=>by omega⟩
     have ap:=S.apart
     have n1:br≠bl:=fun e=>by subst e;simp [keys]at ap
     have n2:br≠bb:=fun e=>by subst e;simp [keys]at ap
     have n3:bl≠bb:=fun e=>by subst e;simp [keys]at ap
     clear ap
     cases hK:σ.K v with
     | none=>
       simp only [BS,LB,Nat.reduceLT,Nat.reduceEqDiff,Tryz.FFs1138,hv,lk,dO,c1,yF,yU,wl,S.ld (b:=br) (o:=4) m0 rfl,S.ld (b:=br) (o:=2) m0 rfl,S.ld (b:=br) (o:=1) m0 rfl]
       refine step_ret (mP S.ok H hv (by omega) hK) ?_
       rintro r h2 ⟨f2,F',H2,hF'⟩
       replace S:=S.stepF f2 (fun c hc=>⟨hFB c hc,hF c hc⟩)
       replace hF': ∀c∈F',c∈F\/h0.n<=c:=fun c hc=>(hF' c hc).imp (fun h=>h) (fun h=>xX n0 h)
       clear lk lL
       simp only [BS]
       refine aC (aH rfl) (q:=0) (ps:=[]) (by kernel_rfl) ?_
       simp only [BS,LB,cls,Nat.reduceLT,Nat.reduceEqDiff,Nat.reduceAdd,Nat.reducePow,Nat.reduceDiv,Nat.reduceMod,Nat.reduceLeDiff,Tryz.FFs1138,hv,S.ld (b:=br) (o:=2) m0 rfl,S.ld (b:=br) (o:=3) m0 rfl]
       refine c5 (aB S (i:=1) rfl Tryz.s2 bw (by rw [uo];exact hv) ono) ?_
       clear S;rintro h3 ⟨S,mo1⟩
       simp only [LC]at S
       simp only [BS,LB,cls,Nat.reduceLT,Nat.reduceEqDiff,Nat.reduceAdd,Nat.reducePow,Nat.reduceDiv,Nat.reduceMod,Nat.reduceLeDiff,Tryz.FFs1138,hv]
       refine c5 (aB S (i:=2) rfl yS bw (by rw [byC_len];exact hv) ono) ?_
       clear S;rintro h4 ⟨S,mo2⟩
       simp only [LC]at S
       simp only [BS,LB,Nat.reduceAdd]
       exact fin (by rw [hK];simp) _ F' S ((H2.mo mo1 (fun c hc=>(hne F' hF' c hc).1)).mo mo2 (fun c hc=>(hne F' hF' c hc).2)) hF'
     | some k=>
       have ek:=hk k hK
       by_cases hle:σ.L v<=lab
       . have c2:(σ.L v:Int)<=(lab:Int):=by omega
         simp only [BS,LB,Nat.reduceLT,Nat.reduceEqDiff,Tryz.FFs1138,hv,lk,dO,lL,c1,yv,c2,S.ld (b:=br) (o:=4) m0 rfl,S.ld (b:=br) (o:=2) m0 rfl]
         exact same (by unfold cL;rw [if_pos (.inr (.inr ⟨by rw [hK];rfl,hle⟩))]) _ g
       . have c2: ¬(σ.L v:Int)<=(lab:Int):=by omega
         simp only [BS,LB,Nat.reduceLT,Nat.reduceEqDiff,Tryz.FFs1138,hv,lk,dO,lL,c1,yv,c2,wl,S.ld (b:=br) (o:=4) m0 rfl,S.ld (b:=br) (o:=2) m0 rfl,S.ld (b:=br) (o:=1) m0 rfl]
         refine step_ret (oD S.ok H (by omega) hK (k:=(lab:Int)+pi v) (by omega)) ?_
         rintro r h2 ⟨f2,H2⟩
         replace S:=S.stepF f2 (fun c hc=>⟨hFB c hc,hF c hc⟩)
         have hF': ∀c∈F,c∈F\/h0.n<=c:=fun c hc=>.inl hc
         clear lk lL
         simp only [BS]
         refine aC (aH rfl) (q:=0) (ps:=[]) (by kernel_rfl) ?_
         simp only [BS,LB,cls,Nat.reduceLT,Nat.reduceEqDiff,Nat.reduceAdd,Nat.reducePow,Nat.reduceDiv,Nat.reduceMod,Nat.reduceLeDiff,Tryz.FFs1138,hv,S.ld (b:=br) (o:=2) m0 rfl,S.ld (b:=br) (o:=3) m0 rfl]
         refine c5 (aB S (i:=1) rfl Tryz.s2 bw (by rw [uo];exact hv) ono) ?_
         clear S;rintro h3 ⟨S,mo1⟩
         simp only [LC]at S
         simp only [BS,LB,cls,Nat.reduceLT,Nat.reduceEqDiff,Nat.reduceAdd,Nat.reducePow,Nat.reduceDiv,Nat.reduceMod,Nat.reduceLeDiff,Tryz.FFs1138,hv]
         refine c5 (aB S (i:=2) rfl yS bw (by rw [byC_len];exact hv) ono) ?_
         clear S;rintro h4 ⟨S,mo2⟩
         simp only [LC]at S
         simp only [BS,LB,Nat.reduceAdd]
         exact fin (by rw [hK];simp;omega) _ F S ((H2.mo mo1 (fun c hc=>(hne F hF' c hc).1)).mo mo2 (fun c hc=>(hne F hF' c hc).2)) hF'
open Tryz in
def Tryz.FFs2142:=aj a1<|aj s1<|aj z1<|aj n1<|aj u2<|aj a2<|aj s2<|aj z2<|aj i2<|aj u3<|aj a3<|aj s3<|aj z3<|aj i3<|aj u4<|aj a4<|aj s4<|aj z4<|aj n4<|aj u5<|aj a5<|aj s5<|aj z5<|aj i5<|aj u6<|aj a6<|aj s6<|aj z6<|aj i6<|aj a7<|aj s7<|aj z7<|aj i7<|aj n7<|aj p7<|aj ff7<|aj d7<|aj u25<|aj a25<|aj s25<|aj z25<|aj q25<|aj n25<|aj a30<|aj s30<|aj z30<|aj i30<|aj n30<|aj p30<|aj ff30<|aj d30<|aj u32<|aj a32<|aj s32<|aj z32<|aj q32<|aj i32<|aj n32<|aj u40<|aj a40<|aj s40<|aj z40<|aj q40<|aj n40<|aj u47<|aj a47<|aj s47<|aj z47<|aj q47<|aj n47<|aj u55<|aj a55<|aj s55<|aj z55<|aj q55<|aj n55<|aj a57<|aj s57<|aj z57<|aj i57<|aj n57<|aj p57<|aj ff57<|aj d57<|aj a59<|aj s59<|aj z59<|aj i59<|aj n59<|aj p59<|aj ff59<|aj d59<|aj u146<|aj a146<|aj s146<|aj z146<|aj q146<|aj n146<|aj a148<|aj s148<|aj z148<|aj i148<|aj n148<|aj p148<|aj ff148<|aj d148<|aj a154<|aj s154<|aj z154<|aj n154<|aj u162<|aj a162<|aj s162<|aj z162<|aj q162<|aj i162<|aj n162<|aj a169<|aj s169<|aj z169<|aj n169<|aj u203<|aj a203<|aj s203<|aj z203<|aj q203<|aj i203<|aj n203<|aj a218<|aj s218<|aj z218<|aj i218<|aj n218<|aj p218<|aj ff218<|aj d218<|aj a250<|aj s250<|aj z250<|aj i250<|aj n250<|aj p250<|aj ff250<|d250
theorem eU.close{M:Nat->Prop}{h0 h:Hp}{br bl bb bk ph N:Nat}{F:List Nat}{pn fal fpi vE:Value}{σ:SS}(S:St M h0 h (srL br bl bb bk N pn (ptrTo ph) fal fpi vE σ) (srG vE σ))(H:cy h F (ptrTo ph) N σ.K)(hF: ∀c∈F,c∉keys (srL br bl bb bk N pn (ptrTo ph) fal fpi vE σ) (srG vE σ)):
 eU h (keys (srL br bl bb bk N pn (ptrTo ph) fal fpi vE σ) (srG vE σ)++F) br pn fal fpi N σ:=
 ⟨bl,bb,bk,ph,F,vE,rfl,fun q hq=>(S.own q hq).2,(S.gown _ m0).1,S.apart,H,hF⟩
theorem eU.open{h:Hp}(ok:h.t.Sized h.n){B:List Nat}{br N:Nat}{pn fal fpi:Value}{σ:SS}(r:eU h B br pn fal fpi N σ): ∃bl bb bk ph F vE,B=keys (srL br bl bb bk N pn (ptrTo ph) fal fpi vE σ) (srG vE σ)++F/\St (· ∈B) h h (srL br bl bb bk N pn (ptrTo ph) fal fpi vE σ) (srG vE σ)/\cy h F (ptrTo ph) N σ.K/\ ∀c∈F,c∉keys (srL br bl bb bk N pn (ptrTo ph) fal fpi vE σ) (srG vE σ):=by
 obtain⟨bl,bb,bk,ph,F,vE,rfl,h1,h2,h3,h4,h5⟩:=r
 exact⟨bl,bb,bk,ph,F,vE,rfl,St.ofHas ok h1 (fun p hp=>by cases hp with|head=>exact h2|tail _ h=>cases h) h3 (fun c hc=>ya _ hc),h4,h5⟩
theorem pX(pi:Nat->Int)(σ:SS)(v lab:Nat)(p:List Nat):(cL pi σ v lab p).ev=σ.ev:=by
 unfold cL;split<;>rfl
theorem uy(A:List Arc)(al:Nat->Bool)(pi:Nat->Int)(v:Nat)(σ:SS)(a:Nat):(scan1 A al pi v σ a).ev.length<=σ.ev.length+1:=by
 unfold scan1
 split
 . rw [pX];simp [evS]
 . omega
theorem sscan_ok {hq h0:Hp} (okq:hq.t.Sized hq.n) (gq:Gr hq h0) {γ:Gra} (hγ:Good γ) {nb bp:Nat} (hn:bT hq nb (ptrTo bp) γ) {B:List Nat} {br ba v s:Nat} {g1 g2:FuncId} {σ:SS} {al:Nat->Bool} {pi:Nat->Int} (R:eU h0 B br (ptrTo bp) (.func (.func g1) #[] #[ptrTo ba]) (.func (.func g2) #[] #[ptrTo ba]) γ.nodes σ) (hB: ∀c∈B,hq.n<=c) (hal:AlF xW hq g1 ba γ.arcs.length al) (hpi:PiF xW hq g2 ba γ.nodes pi) (hp: ∀v,v<γ.nodes-> -(FAR:Int)<=pi v)
 (hv:v<γ.nodes) (sv:Sv γ.arcs γ.nodes s al pi σ) (rm:Room σ v) (he:σ.ev.length<=10000):
 Ret xW 142 [ptrTo br,.int .i64 (v:Nat)] h0 fun _ h'=>Mo (· ∈B) h0 h'/\ ∃B',eU h' B' br (ptrTo bp) (.func (.func g1) #[] #[ptrTo ba]) (.func (.func g2) #[] #[ptrTo ba]) γ.nodes (mw γ.arcs al pi v σ)/\ ∀c∈B',c∈B\/h0.n<=c:=by
 have ok:=gq.ok
 have n1:=hγ.n1
 have n2:=hγ.n2
 have wm:=kC
 have hA: ∀a∈γ.arcs,a.t<γ.nodes/\a.w<=cK:=fun a ha=>⟨(hγ.arcs a ha).2.1,(hγ.arcs a ha).2.2⟩
 have l0:h0.load br 0 1=some [ptrTo bp]:=by
  obtain⟨bl,bb,bk,ph,F,vE,rfl,h1,_⟩:=R
  exact Row.load1 (show Row h0 br _ 1 from h1 _ m0) (o:=0) rfl
 have S:=Si ok
 refine ac (n:=62) (rs:=[]) rfl Tryz.e142 rfl rfl rfl (lbt rfl) ?_
 simp only [BS,LB,Nat.reduceLT,Nat.reduceEqDiff,Tryz.FFs2142,l0]
 refine step_ret (ss S.ok (hn.gr gq) (by have:=hγ.many;omega) hv) ?_
 rintro vl h1 ⟨g,sl,hc⟩
 have lB:=R.lt ok
 have R1:=R.gr g
 have ok1:=g.ok
 have ol:=ks γ.arcs Arc.s γ.arcs.length v
 have many:=hγ.many
 have n01:=g.n
 simp only [BS,LB,Nat.reduceLT,Nat.reduceEqDiff,Tryz.FFs2142,sl.lenq]
 refine aZ (fun(i:Nat) ρ h=>i<=(outs γ.arcs Arc.s γ.arcs.length v).length/\ ∃B',Mo (· ∈B) h1 h/\eU h B' br (ptrTo bp) (.func (.func g1) #[] #[ptrTo ba]) (.func (.func g2) #[] #[ptrTo ba]) γ.nodes (((outs γ.arcs Arc.s γ.arcs.length v).take i).foldl (scan1 γ.arcs al pi v) σ)/\(∀c∈B',c∈B\/h1.n<=c)/\
  ρ 0=ptrTo br/\ρ 1=.int .i64 (v:Nat)/\ρ 13=vl/\ρ 14=.int .i64 ((outs γ.arcs Arc.s γ.arcs.length v).length:Nat)/\ρ 15=.int .i64 i) (fun i=>(outs γ.arcs Arc.s γ.arcs.length v).length-i) ?_ 0 _ _ ?_
 . clear S l0
   intro i ih ρ hS ⟨hi,B',f,R',hB',r0,r1,r13,r14,r15⟩
   by_cases hlt:i<(outs γ.arcs Arc.s γ.arcs.length v).length
   . have hBq: ∀c∈B',hq.n<=c:=fun c hc=>(hB' c hc).elim (hB c) (fun h=>by have:=gq.n;omega)
     have gh:Gr hq hS:=(gq.trans g).mo' f hB
     have slh:=sl.mo f (fun b hb hm=>by have:=hc b hb;have:=lB b hm;omega)
     obtain⟨c,o,hidx,hld⟩:=slh.ix (kd:=.i64) fH hlt
     have hm:=im.1 (yl hlt)
     have w:au .i64 ((i:Int)+1)=((i+1:Nat):Int):=by rw [wrap64]<;>omega
     have hl2: ∀a∈(outs γ.arcs Arc.s γ.arcs.length v).take i,a<γ.arcs.length/\(γ.arcs.getD a default).s=v:=fun a ha=>im.1 (List.mem_of_mem_take ha)
     obtain⟨svi,ki⟩:=Sv.scanL hA _ sv rm hl2
     have rmi:=rm.keeps ki
     have evi:(((outs γ.arcs Arc.s γ.arcs.length v).take i).foldl (scan1 γ.arcs al pi v) σ).ev.length<=10000+i:=by
      have: ∀(l:List Nat) (σ:SS),(l.foldl (scan1 γ.arcs al pi v) σ).ev.length<=σ.ev.length+l.length:=by
       intro l
       induction l with
       |nil=>intro σ;simp
       |cons a l ih=>intro σ;have h1:=ih (scan1 γ.arcs al pi v σ a);have h2:=uy γ.arcs al pi v σ a;simp only [List.foldl_cons,List.length_cons];omega
      have h1:=this ((outs γ.arcs Arc.s γ.arcs.length v).take i) σ
      rw [List.length_take]at h1
      omega
     have tk:(outs γ.arcs Arc.s γ.arcs.length v).take (i+1)=(outs γ.arcs Arc.s γ.arcs.length v).take i++[(outs γ.arcs Arc.s γ.arcs.length v)[i]]:=by rw [List.take_add_one,xZ hlt];rfl
     have nxt:((outs γ.arcs Arc.s γ.arcs.length v).take (i+1)).foldl (scan1 γ.arcs al pi v) σ=scan1 γ.arcs al pi v (((outs γ.arcs Arc.s γ.arcs.length v).take i).foldl (scan1 γ.arcs al pi v) σ) (outs γ.arcs Arc.s γ.arcs.length v)[i]:=by rw [tk,List.foldl_append];rfl
     generalize(((outs γ.arcs Arc.s γ.arcs.length v).take i).foldl (scan1 γ.arcs al pi v) σ)=σi at R' svi ki rmi evi nxt
     generalize(outs γ.arcs Arc.s γ.arcs.length v)[i]=a at hm hld nxt
     obtain⟨ha,hsv⟩:=hm
     obtain⟨bl,bb,bk,ph,F,vE,hBe,S,H,hF⟩:=R'.open f.ok
     have lB':=R'.lt f.ok
     have hk0: ∀c∈keys (srL br bl bb bk γ.nodes (ptrTo bp) (ptrTo ph) (.func (.func g1) #[] #[ptrTo ba]) (.func (.func g2) #[] #[ptrTo ba]) vE σi) (srG vE σi),c∈B':=fun c hc=>by rw [hBe];exact ya _ hc
     have hk1: ∀c∈F,c∈B':=fun c hc=>by rw [hBe];exact yd _ hc
     have lF:=H.lt f.ok
     replace S:=S.base
     generalize hKK:keys (srL br bl bb bk γ.nodes (ptrTo bp) (ptrTo ph) (.func (.func g1) #[] #[ptrTo ba]) (.func (.func g2) #[] #[ptrTo ba]) vE σi) (srG vE σi)=KK at S hk0 hF hBe
     unfold srL srG at S
     simp only [BS,LB,Nat.reduceLT,Nat.reduceEqDiff,Tryz.FFs2142,r0,r13,r14,r15,aI,hlt,hidx,hld,bW,S.ld (b:=br) (o:=5) m0 rfl]
     refine ar (hal _ gh a ha) ?_;intro h' g';replace S:=S.call g'
     have nh':=g'.n
     cases hala:al a with
     | false=>
       simp only [BS,LB,Nat.reduceLT,Nat.reduceEqDiff,r15,w]
       refine ih (i+1) _ _ (by omega) ⟨by omega,B',f.trans (M':=NoM) g'.fr (fun _ h=>h.elim),?_,hB',by simp [aa,r0,ah],by simp [aa,r1],by simp [aa,r13],by simp [aa,r14],by simp [aa]⟩
       rw [nxt]
       unfold scan1
       rw [hala,if_neg Bool.false_ne_true]
       exact R'.gr g'
     | true=>
       have fvE:Fl vE:=(S.gown _ m0).1.fl
       simp only [BS,LB,Nat.reduceLT,Nat.reduceEqDiff,Nat.reduceAdd,Tryz.FFs2142,r0,S.ld (b:=br) (o:=7) m0 rfl]
       refine ae (bL (by exact yY) (by exact yW) (by decide) (by rfl)) S ?_;clear S;intro h bs S n_bs;simp only [LC,aU,bI,ag,Nat.reduceMul,Nat.reduceAdd,yr,yo,yy,yz]at S
       simp only [BS,LB,Nat.reduceLT,Nat.reduceEqDiff]
       have src:aO h 4 (.slice (some ⟨bs,0,none⟩) 1 1)=some (1,dH ⟨1,a,0⟩):=by simp only [aO];rw [S.lds (b:=bs) (o:=0) (n:=1*4) m0 (lbt rfl)];rfl
       replace S:=S.drop1
       refine eK (S.grow (j:=0) (m:=1) (new:=dH ⟨1,a,0⟩) rfl yY yW (by decide) Tryz.n47 src rfl (by decide) rfl (by rw [bj mi];show(_+4)*_<=_;omega)) ?_
       clear S src;rintro h2 vE' S
       simp only [LC]at S
       have fvE':Fl vE':=(S.gown _ m0).1.fl
       simp only [BS,LB,Nat.reduceLT,Nat.reduceEqDiff,Tryz.FFs2142]
       refine az (aB S (i:=0) rfl Tryz.s47 fvE' (ye (lbt rfl)) ono) ?_
       clear S;rintro h3 ⟨S,_⟩
       simp only [LC]at S
       have eE:(σi.ev++[(⟨1,a,0⟩:Ev)]).flatMap dH=σi.ev.flatMap dH++dH ⟨1,a,0⟩:=by rw [yJ];simp
       rw [<-eE]at S
       simp only [BS,LB,Nat.reduceLT,Nat.reduceEqDiff,Tryz.FFs2142,r0,S.ld (b:=br) (o:=0) m0 rfl]
       have hKq: ∀c∈KK,hq.n<=c:=fun c hc=>hBq c (hk0 c hc)
       refine step_ret (oF S.ok (hn.gr (gh.mo' S.fr hKq)) ha) ?_
       rintro rv h4 ⟨g4,rfl⟩
       replace S:=S.call g4;clear g4
       have ga:γ.arcs[a]=γ.arcs.getD a default:=by simp [xY,ha]
       have aok:=hA (γ.arcs.getD a default) (by rw [<-ga];exact yl ha)
       have lv:=rmi.2.1
       have ol2:σi.O.length*cK<=12*cK:=yw _ (xX svi.len n2)
       rw [ga]
       simp only [BS,LB,Nat.reduceLT,Nat.reduceEqDiff,Tryz.FFs2142,cI]
       refine ae aw S ?_;clear S;intro h b6 S n_b6
       simp only [BS,LB,Nat.reduceLT,Nat.reduceEqDiff]
       refine az (S.store (i:=0) rfl ?_ ?_ rfl rfl ?_ ono) ?_
       . exact(by exact yX)
       . exact(by intro x e;cases e)
       . exact lbt rfl
       clear S;rintro h ⟨S,mo⟩;clear mo;simp only [LC,ag,lay,yg,yh,Nat.reduceAdd]at S
       simp only [BS,LB,Nat.reduceLT,Nat.reduceEqDiff]
       have lL:=(S.row (b:=bl) m2).load1 (pf (L:=σi.L) hv)
       have wn:au .i64 ((σi.L v:Int)+((γ.arcs.getD a default).w:Int))=((σi.L v+(γ.arcs.getD a default).w:Nat):Int):=by rw [wrap64]<;>omega
       refine aC (aH rfl) (q:=0) (ps:=[]) (by kernel_rfl) ?_
       simp only [BS,LB,cls,Nat.reduceLT,Nat.reduceEqDiff,Nat.reduceAdd,Nat.reducePow,Nat.reduceDiv,Nat.reduceMod,Nat.reduceLeDiff,Tryz.FFs2142,r0,r1,wn,hv,lL,S.ld (b:=br) (o:=2) m1 rfl,S.ld (b:=b6) (o:=1) m0 rfl,S.ld (b:=b6) (o:=2) m0 rfl]
       have kn:=fun c hc=>(S.key_own (b:=c) hc).symm
       have kf:=S.fr
       have gx:=gh.mo' S.fr hKq
       have hF2: ∀c∈F,c∉keys (srL br bl bb bk γ.nodes (ptrTo bp) (ptrTo ph) (.func (.func g1) #[] #[ptrTo ba]) (.func (.func g2) #[] #[ptrTo ba]) vE' (evS σi ⟨1,a,0⟩)) (srG vE' (evS σi ⟨1,a,0⟩)):=fun c hc hm=>by
        rcases kn c (yf _ hm)with h1|h1
        . exact hF c hc h1
        . have:=lF c hc;omega
       have R2:=eU.close (σ:=evS σi ⟨1,a,0⟩) (vE:=vE') S.drop1 (H.mo kf (fun c hc hm=>hF c hc hm)) hF2
       have hB2: ∀c∈keys (srL br bl bb bk γ.nodes (ptrTo bp) (ptrTo ph) (.func (.func g1) #[] #[ptrTo ba]) (.func (.func g2) #[] #[ptrTo ba]) vE' (evS σi ⟨1,a,0⟩)) (srG vE' (evS σi ⟨1,a,0⟩))++F,c∈B'\/hS.n<=c:=fun c hc=>by
        rcases List.mem_append.1 hc with hc|hc
        . exact(kn c (yf _ hc)).imp (hk0 c) (fun h=>h)
        . exact .inl (hk1 c hc)
       refine dg (sy (p:=a::σi.P v) (lab:=σi.L v+(γ.arcs.getD a default).w) gx R2 hpi n2 aok.1 (by omega) (hp _ aok.1) (fun k hk=>(svi.op _ k hk).2.2.2)) ?_
       rintro rv h5 ⟨f5,B3,R3,hB3⟩
       simp only [BS,LB,Nat.reduceLT,Nat.reduceEqDiff,Nat.reduceAdd,r15,w]
       have nh:=f.n
       have nx:=kf.n
       have gB: ∀c,c∈B'\/hS.n<=c->c∈B\/h1.n<=c:=fun c hc=>hc.elim (hB' c) (fun h=>.inr (by omega))
       refine ih (i+1) _ _ (by omega) ⟨by omega,B3,(f.trans kf (fun c hc=>gB c (.inl (hk0 c hc)))).trans f5 (fun c hc=>gB c (hB2 c hc)),?_,fun c hc=>gB c ((hB3 c hc).elim (hB2 c) (fun h=>.inr (by omega))),by simp [aa,r0,ah],by simp [aa,r1],by simp [aa,r13],by simp [aa,r14],by simp [aa]⟩
       rw [nxt]
       unfold scan1
       rw [hala,if_pos rfl]
       exact R3
   . have ei:i=(outs γ.arcs Arc.s γ.arcs.length v).length:=by omega
     simp only [BS,LB,Nat.reduceLT,r14,r15,aI,hlt]
     refine⟨(g.fr (M:=(· ∈B))).trans f (fun c hc=>.inl hc),B',?_,fun c hc=>(hB' c hc).imp (fun h=>h) (fun h=>by omega)⟩
     rw [ei,List.take_length]at R'
     exact R'
 . exact⟨yE _,B,Mo.refl ok1,R1,fun c hc=>.inl hc,by simp [aa,aV,ah],by simp [aa,aV,bV],by simp [aa],by simp [aa],by simp [aa]⟩
open Tryz in
def Tryz.FFs3163:=aj a1<|aj s1<|aj z1<|aj n1<|aj u2<|aj a2<|aj s2<|aj z2<|aj i2<|aj u3<|aj a3<|aj s3<|aj z3<|aj i3<|aj u4<|aj a4<|aj s4<|aj z4<|aj n4<|aj u6<|aj a6<|aj s6<|aj z6<|aj i6<|aj a7<|aj s7<|aj z7<|aj i7<|aj n7<|aj p7<|aj ff7<|aj d7<|aj u40<|aj a40<|aj s40<|aj z40<|aj q40<|aj n40<|aj a222<|aj s222<|aj z222<|n222
open Tryz in
def Tryz.FFs3164:=aj a1<|aj s1<|aj z1<|aj n1<|aj u2<|aj a2<|aj s2<|aj z2<|aj i2<|aj u3<|aj a3<|aj s3<|aj z3<|aj i3<|aj u4<|aj a4<|aj s4<|aj z4<|aj n4<|aj u25<|aj a25<|aj s25<|aj z25<|aj q25<|aj n25<|aj a30<|aj s30<|aj z30<|aj i30<|aj n30<|aj p30<|aj ff30<|aj d30<|aj u32<|aj a32<|aj s32<|aj z32<|aj q32<|aj i32<|aj n32<|aj u40<|aj a40<|aj s40<|aj z40<|aj q40<|aj n40<|aj u47<|aj a47<|aj s47<|aj z47<|aj q47<|aj n47<|aj u55<|aj a55<|aj s55<|aj z55<|aj q55<|aj n55<|aj a57<|aj s57<|aj z57<|aj i57<|aj n57<|aj p57<|aj ff57<|aj d57<|aj a59<|aj s59<|aj z59<|aj i59<|aj n59<|aj p59<|aj ff59<|aj d59<|aj u146<|aj a146<|aj s146<|aj z146<|aj q146<|aj n146<|aj a148<|aj s148<|aj z148<|aj i148<|aj n148<|aj p148<|aj ff148<|aj d148<|aj a154<|aj s154<|aj z154<|aj n154<|aj u162<|aj a162<|aj s162<|aj z162<|aj q162<|aj i162<|aj n162<|aj a169<|aj s169<|aj z169<|aj n169<|aj u203<|aj a203<|aj s203<|aj z203<|aj q203<|aj i203<|aj n203<|aj a218<|aj s218<|aj z218<|aj i218<|aj n218<|aj p218<|aj ff218<|aj d218<|aj a250<|aj s250<|aj z250<|aj i250<|aj n250<|aj p250<|aj ff250<|d250
def IterW(E:Env)(g:FuncId)(post:List Value)(h0:Hp)(D W:Nat->Prop)(xs:List (List Value)):Prop:=
 ∀lb J Z,(∀v h,¬Z (.pan v) h)->Yld E lb J Z xs->(∀i h F h',J i h F->Mo W h h'->J i h' F)-> ∀h F,ItS h0 D h F->(∀b,W b->h.get b=h0.get b)->(∀b∈F,¬W b)->J 0 h F->eN E g ([]++[.func (.yield lb) #[] #[]]++post) none h (YQ J Z xs.length)
theorem qu(l:List Nat):(l.flatMap bW).length=l.length:=by rw [bj fH];omega
theorem nA{h:Hp}{p:GL}(g:eQ h p){c:Nat}(hb:av p.1 c):dR p=some c:=by
 rcases g with⟨e,_⟩|⟨b,n,e,_⟩
 . rw [e]at hb;exact hb.elim
 . obtain⟨v,k,vs⟩:=p
   simp only []at e hb
   subst e
   exact congrArg some hb
theorem tF{h0:Hp}(ok:h0.t.Sized h0.n){g:FuncId}{post:Array Value}{D W:Nat->Prop}{xs:List Nat}(it:IterW xW g post.toList h0 D W (xs.map fun(x:Nat)=>[.int .i64 x]))(hW: ∀b,W b->b<h0.n)(hn:xs.length<100000):
 Ret xW 163 [.slice none 0 0,.func (.func g) #[] post] h0 fun r h'=>Mo W h0 h'/\eQ h' (r,1,xs.flatMap bW)/\ ∀c,av r c->h0.n<=c:=by
 have S:=Si ok
 refine ac (n:=13) (rs:=[.tmp 4]) rfl Tryz.e163 rfl rfl rfl (lbt rfl) ?_
 simp only [BS,Nat.reduceLT]
 refine ae (co (by exact aW)) S ?_;clear S;intro h b2 S n_b2
 simp only [BS,Nat.reduceLT,Nat.reduceEqDiff,if_false]
 replace S:=S.nilG (k:=1)
 have g0:=S.gr
 replace S:=S.monoM (M:=W)
 have fr0:=S.fr
 refine g8 S (g:=g) (a:=#[]) (b:=post) (by simp [bK,aa,aV,bV]) rfl rfl ?_
 intro h2 db lb S' hdb hlb g2
 obtain⟨X,hX,S'⟩: ∃X:eo,X=_/\St W h0 h2 [(lb,.loop X),(db,.dfr),(b2,.row [.slice none 0 0] 1)] [(.slice none 0 0,1,[])]:=⟨_,rfl,S'⟩
 have nW: ∀c,h0.n<=c-> ¬W c:=fun c h hw=>by have:=hW c hw;omega
 have hJ:Yld xW lb (fun k h' F=> ∃(vR:Value),St W h0 h' [(lb,.loop X),(db,.dfr),(b2,.row [vR] 1)] [(vR,1,(xs.take k).flatMap bW)]/\k<=xs.length/\(∀c∈F,h0.n<=c)/\F=keys [(lb,.loop X),(db,.dfr),(b2,.row [vR] 1)] [(vR,1,(xs.take k).flatMap bW)]) (fun _ _=>False) (xs.map fun(x:Nat)=>[.int .i64 x]):=by
  refine⟨?_,?_,fun _ _ h=>h.elim,?_⟩
  . rintro i h F ⟨vR,S,_,_,rfl⟩;exact⟨S.ok,fun b hb=>S.key_lt hb⟩
  . rintro i h F h' ⟨vR,S,a,b,rfl⟩ gg;exact⟨vR,S.call gg,a,b,rfl⟩
  . rintro i x hR F hx ⟨vR,S,a,b,rfl⟩
    have hil:i<xs.length:=by
     have:=(List.getElem?_eq_some_iff.1 hx).1
     simpa using this
    rw [ym,xZ hil]at hx
    cases hx
    have tk:(xs.take (i+1)).flatMap bW=(xs.take i).flatMap bW++[.int .i64 (xs[i]:Nat)]:=by rw [List.take_add_one,xZ hil,yJ];rfl
    have tl:(xs.take i).length<=i:=by rw [List.length_take];omega
    subst hX
    refine hI (S.get m0) (by rw [Tryz.e163];rfl) rfl ?_
    have S0:=S
    replace S:=S.base
    simp only [BS,LB,Nat.reduceLT,Nat.reduceEqDiff]
    refine gp S (i:=0) rfl rfl rfl rfl rfl ?_
    clear S;intro h S
    simp only [LC]at S
    simp only [BS,LB,Nat.reduceLT,Nat.reduceEqDiff,Tryz.FFs3163,S.ld (b:=b2) (o:=0) m2 rfl]
    refine ae (bL (by exact yP) (by exact yQ) (by decide) (by rfl)) S ?_;clear S;intro h bs S n_bs;simp only [LC,aU,bI,ag,Nat.reduceMul,Nat.reduceAdd,yr,yo,yy,yz]at S
    simp only [BS,LB,Nat.reduceLT,Nat.reduceEqDiff]
    have src:aO h 1 (.slice (some ⟨bs,0,none⟩) 1 1)=some (1,[.int .i64 (xs[i]:Nat)]):=by simp only [aO];rw [S.lds (b:=bs) (o:=0) (n:=1*1) m0 (lbt rfl)];rfl
    replace S:=S.drop1
    refine eK (S.grow (j:=0) (m:=1) (new:=[.int .i64 (xs[i]:Nat)]) rfl yP yQ (by decide) Tryz.n40 src rfl (by decide) rfl (by rw [qu];simp;omega)) ?_
    clear S src;rintro h vR' S
    simp only [LC]at S
    have fv:Fl vR':=(S.gown _ m0).1.fl
    simp only [BS,LB,Nat.reduceLT,Nat.reduceEqDiff]
    refine az (aB S (i:=2) rfl Tryz.s40 fv (ye (lbt rfl)) ono) ?_
    clear S;rintro h ⟨S,_⟩
    simp only [LC]at S
    simp only [BS]
    refine dY S (i:=0) rfl ?_
    clear S;intro h S
    simp only [LC]at S
    rw [<-tk]at S
    have fin:=S0.rebase S
    refine .inl ⟨rfl,_,⟨vR',fin,by omega,fun c hc=>?_,rfl⟩,S.fr,fun c hc=>(S.key_own hc).symm⟩
    rcases S.key_own hc with h1|h1
    . have:=S0.fr.n;omega
    . exact b c h1
 have hF0: ∀c∈keys [(lb,Ob.loop X),(db,.dfr),(b2,.row [.slice none 0 0] 1)] [(.slice none 0 0,1,[])],h0.n<=c:=fun c hc=>by
  have n2:=n_b2
  have:=fr0.n
  simp [keys,dR]at hc
  omega
 refine fg (it lb _ _ (fun _ _ h=>h) hJ ?_ h2 _ ?_ ?_ (fun c hc=>nW c (hF0 c hc)) ⟨_,S',yE _,hF0,rfl⟩) fun o rc h' y=>jJ y ?_
 . rintro i h F h' ⟨vR,S,a,b,rfl⟩ gg
   exact⟨vR,S.step gg (fun c hc=>.inl hc) (fun c hc hw=>nW c (b c hc) hw),a,b,rfl⟩
 . have gg:Mo W h0 h2:=S'.fr
   exact⟨S'.ok,S'.fr.n,fun b hb _=>(g0.trans g2).get b hb,fun b hb h=>by have:=hF0 b hb;omega,fun b hb=>S'.key_lt hb⟩
 . exact fun b hb=>(g0.trans g2).get b (hW b hb)
 . rintro F ⟨vR,T,a,b,rfl⟩
   rw [yj,List.take_length]at T b
   subst hX
   refine⟨_,T.get m0,Nat.zero_ne_one,?_⟩
   replace T:=T.dead
   have S:=T
   show Run _ _ _ _ _ _ _ _
   simp only [BS,LB,Nat.reduceLT,Nat.reduceEqDiff,Tryz.FFs3163,S.ld (b:=b2) (o:=0) m1 rfl]
   refine eJ (iD [db] _ (L:=[(b2,_)]) T.base fun h3 S3=>⟨rfl,_,rfl,?_⟩)
   refine⟨(T.fr.trans S3.fr (fun c hc=>(T.key_own hc).symm):Mo W h0 h3),(S3.gown _ m0).1,fun x hx=>?_⟩
   refine b x ?_
   have:dR (vR,1,xs.flatMap bW)=some x:=nA (T.gown _ m0).1 hx
   exact fi m0 this
theorem v9{h0:Hp}(ok:h0.t.Sized h0.n){g:FuncId}{post:Array Value}{D W:Nat->Prop}{xs:List Nat}(it:IterW xW g post.toList h0 D W (xs.map fun(x:Nat)=>[.int .i64 x]))(hW: ∀b,W b->b<h0.n)(hn:xs.length<100000):
 Ret xW 139 [.func (.func g) #[] post] h0 fun r h'=>Mo W h0 h'/\eQ h' (r,1,xs.flatMap bW)/\ ∀c,av r c->h0.n<=c:=by
 have S:=Si ok
 refine ac (n:=5) (rs:=[.tmp 2]) rfl Tryz.e139 rfl rfl rfl (lbt rfl) ?_
 simp only [BS,LB,Nat.reduceLT,Nat.reduceEqDiff]
 refine step_ret (tF S.ok it hW hn) ?_
 rintro r h ⟨f,q⟩
 simp only [BS,LB,ab,Nat.reduceLT,Nat.reduceEqDiff]
 exact⟨f,q⟩
theorem sback_ok{h0:Hp}(ok:h0.t.Sized h0.n){br v:Nat}:Ret xW 140 [ptrTo br,.int .i64 v] h0 fun r h'=>Gr h0 h'/\ ∃b1 b2,r=.func (.func 164) #[] #[ptrTo b1,ptrTo b2]/\h0.n<=b1/\h0.n<=b2/\b1≠b2/\h'.load b1 0 1=some [ptrTo br]/\Row h' b2 [.int .i64 v] 1:=by
 have S:=Si ok
 refine ac (n:=6) (rs:=[.tmp 4]) rfl Tryz.e140 rfl rfl rfl (lbt rfl) ?_
 simp only [BS,Nat.reduceLT]
 refine ae (co (by exact fb)) S ?_;clear S;intro h b1 S n_b1
 simp only [BS,Nat.reduceLT,Nat.reduceEqDiff,if_false]
 refine ae (co (by exact bw)) S ?_;clear S;intro h b2 S n_b2
 simp only [BS,LB,ab,Nat.reduceLT,Nat.reduceEqDiff]
 have ap:=S.apart
 exact⟨S.gr,b1,b2,rfl,n_b1,n_b2,fun e=>(by subst e;simp [keys]at ap),S.ld m1 rfl,S.row m0⟩
theorem back_it{hq h0:Hp}(okq:hq.t.Sized hq.n)(gq:Gr hq h0){γ:Gra}(hγ:Good γ){nb bp:Nat}(hn:bT hq nb (ptrTo bp) γ){B:List Nat}{br b1 b2 s:Nat}{fal fpi:Value}{σ:SS}{al:Nat->Bool}{pi:Nat->Int}(R:eU h0 B br (ptrTo bp) fal fpi γ.nodes σ)(sv:Sv γ.arcs γ.nodes s al pi σ){u0:Nat}(hu:u0∈σ.O)
 (e1:h0.load b1 0 1=some [ptrTo br]) (e2:Row h0 b2 [.int .i64 u0] 1) (d1:b2∉B) (d2:b1≠b2) (d3:hq.n<=b2):
 IterW xW 164 [ptrTo b1,ptrTo b2] h0 (fun c=>c=b1\/c∈B\/c<hq.n) (· =b2) ((σ.P u0).map fun(a:Nat)=>[.int .i64 a]):=by
 intro lb J Z hz Y hW h F s' hb hF hj
 have ok0:=gq.ok
 obtain⟨bl,bb,bk,ph,F',vE,rfl,hL,_⟩:=R
 have rr:Row h0 br _ 1:=hL _ m0
 have rb:Row h0 bb (byC γ.nodes σ.P) 1:=hL _ m2
 have kr:br∈keys (srL br bl bb bk γ.nodes (ptrTo bp) (ptrTo ph) fal fpi vE σ) (srG vE σ)++F':=ya _ (by simp [srL,keys])
 have kb:bb∈keys (srL br bl bb bk γ.nodes (ptrTo bp) (ptrTo ph) fal fpi vE σ) (srG vE σ)++F':=ya _ (by simp [srL,keys])
 generalize keys (srL br bl bb bk γ.nodes (ptrTo bp) (ptrTo ph) fal fpi vE σ) (srG vE σ)++F'=B at d1 kr kb s'
 have l0:=rr.load1 (o:=0) rfl
 have l3:=rr.load1 (o:=3) rfl
 have row2:Row h b2 [.int .i64 u0] 1:=Row.of_get (hb b2 rfl) e2
 have q2:=row2.load1 (o:=0) rfl
 have uN:=sv.lt u0 hu
 have q1:=s'.load ok0 e1 (.inl rfl)
 have q3:=s'.load ok0 l3 (.inr (.inl kr))
 have q4:=s'.load ok0 (rb.load1 (byC_at (P:=σ.P) uN)) (.inr (.inl kb))
 refine enter (n:=39) (rs:=[]) rfl Tryz.e164 rfl rfl rfl (lbt rfl) ?_
 simp only [BS,LB]
 refine aC (aH rfl) (q:=0) (ps:=[]) (by kernel_rfl) ?_
 simp only [BS,LB,cls,Nat.reduceLT,Nat.reduceEqDiff,Nat.reduceAdd,Nat.reducePow,Nat.reduceDiv,Nat.reduceMod,Nat.reduceLeDiff,Tryz.FFs3164,q1,q2,q3,q4,uN]
 refine aZ (fun(j:Nat) ρ h=>j<=(σ.P u0).length/\ ∃u F,u∈σ.O/\σ.P u=(σ.P u0).drop j/\ItS h0 (fun c=>c=b1\/c∈B\/c<hq.n) h F/\b2∉F/\J j h F/\Row h b2 [.int .i64 (u:Nat)] 1/\ρ 0=.func (.yield lb) #[] #[]/\ρ 1=ptrTo b1/\ρ 2=ptrTo b2/\ρ 4=.int .i64 (byI (σ.P u))) (fun j=>(σ.P u0).length-j) ?_ 0 _ _ ?_
 . clear q1 q2 q3 q4 uN row2 hj hF hb s' F h
   intro j ih ρ hS ⟨hj',u,F,hu',hP,s',hF,hj,row2,r0,r1,r2,r4⟩
   have uN:=sv.lt u hu'
   rcases sv.path u (.inl hu')with⟨_,e,_⟩|⟨a,ha,hal,ht,hs,e,_⟩
   . have ej:j=(σ.P u0).length:=by
      rw [e]at hP
      have:=congrArg List.length hP
      rw [List.length_drop]at this
      simp at this;omega
     rw [e]at r4
     simp only [byI]at r4
     simp only [BS,LB,Nat.reduceLT,Nat.reduceEqDiff,Int.reduceLE,r4]
     exact dv (dy ⟨rfl,_,rfl,rfl,.inl ⟨_,F,rfl,by rw [yj,<-ej];exact hj⟩⟩)
   . have hlt:j<(σ.P u0).length:=by
      rw [e]at hP
      have:=congrArg List.length hP
      rw [List.length_drop]at this
      simp at this;omega
     have hd:(σ.P u0)[j]=a/\(σ.P u0).drop (j+1)=σ.P (γ.arcs.getD a default).s:=by
      rw [e,yO hlt]at hP
      injection hP with h1 h2
      exact⟨h1.symm,h2.symm⟩
     have hx:((σ.P u0).map fun(a:Nat)=>[Value.int .i64 a])[j]? =some [.int .i64 (a:Nat)]:=by rw [ym,xZ hlt,hd.1];rfl
     rw [e]at r4
     simp only [byI]at r4
     have c0:(0:Int)<=(a:Int):=by omega
     have b2lt:=row2.lt s'.ok
     simp only [BS,LB,Nat.reduceLT,Nat.reduceEqDiff,r0,r4,c0]
     refine eG Y s' hj (i:=j) hx ?_ ?_ ?_
     . intro h' F2 hj2 s2 f2 hF2
       have row2':Row h' b2 [.int .i64 (u:Nat)] 1:=f2.has (o:=.row _ 1) row2 hF
       have nF2:b2∉F2:=fun hm=>(hF2 b2 hm).elim hF (fun h=>by omega)
       have S:=St.init1 s2.ok (o:=.row _ 1) row2'
       have q1:=s2.load ok0 e1 (.inl rfl)
       have q0:=s2.load ok0 l0 (.inr (.inl kr))
       have q3:=s2.load ok0 l3 (.inr (.inl kr))
       have sN:=sv.lt _ hs
       have q4:=s2.load ok0 (rb.load1 (byC_at (P:=σ.P) sN)) (.inr (.inl kb))
       have nt:bT h' nb (ptrTo bp) γ:=hn.keep okq (s2.keep (Gr.keep gq) gq.n (fun c hc=>.inr (.inr hc)))
       simp only [BS,LB,Nat.reduceLT,Nat.reduceEqDiff,Tryz.FFs3164,r1,r4,q1,q0]
       refine step_ret (oF S.ok nt ha) ?_
       rintro rv h4 ⟨g4,rfl⟩
       replace S:=S.call g4;clear g4
       have ga:γ.arcs[a]=γ.arcs.getD a default:=by simp [xY,ha]
       rw [ga]
       have nM: ∀{c},c=b1\/c∈B-> ¬c=b2:=fun hc e=>by subst e;exact hc.elim (fun h=>d2 h.symm) d1
       simp only [BS,LB,Nat.reduceLT,Nat.reduceEqDiff,Tryz.FFs3164,cI]
       refine ae aw S ?_;clear S;intro h b5 S n_b5
       simp only [BS,LB,Nat.reduceLT,Nat.reduceEqDiff]
       refine az (S.store (i:=0) rfl ?_ ?_ rfl rfl ?_ ono) ?_
       . exact(by exact yX)
       . exact(by intro x e;cases e)
       . exact lbt rfl
       clear S;rintro h ⟨S,mo⟩;clear mo;simp only [LC,ag,lay,yg,yh,Nat.reduceAdd]at S
       simp only [BS,LB,Nat.reduceLT,Nat.reduceEqDiff,Tryz.FFs3164,r2,S.ld (b:=b5) (o:=0) m0 rfl]
       refine az (aB S (i:=1) rfl ?_ ?_ ?_ ono) ?_
       . exact(by simp only [Tryz.FFs3164])
       . exact(by exact bw)
       . exact ye (lbt rfl)
       clear S;rintro h ⟨S,mo⟩;clear mo;simp only [LC,ag,lay,yg,yh,Nat.reduceAdd]at S
       have k1:=S.old q1 (nM (.inl rfl))
       have k3:=S.old q3 (nM (.inr kr))
       have k4:=S.old q4 (nM (.inr kb))
       simp only [BS]
       refine aC (aH rfl) (q:=0) (ps:=[]) (by kernel_rfl) ?_
       simp only [BS,LB,cls,Nat.reduceLT,Nat.reduceEqDiff,Nat.reduceAdd,Nat.reducePow,Nat.reduceDiv,Nat.reduceMod,Nat.reduceLeDiff,Tryz.FFs3164,r1,r2,k1,k3,k4,sN,S.ld (b:=b2) (o:=0) m1 rfl]
       have fr:=S.fr
       refine ih (j+1) _ _ (by omega) ⟨by omega,(γ.arcs.getD a default).s,F2,hs,hd.2.symm,?_,nF2,hW _ _ _ _ hj2 fr,S.row (by simp),by simp [aa,r0],by simp [aa,r1,ah],by simp [aa,r2,ah],by simp [aa]⟩
       exact⟨fr.ok,xX s2.n fr.n,fun b hb hd=>(fr.get b (Nat.lt_of_lt_of_le hb s2.n) (by rcases hd with h|h|h;exact nM (.inl h);exact nM (.inr h);exact fun e=>by omega)).trans (s2.data b hb hd),s2.apart,fun b hb=>Nat.lt_of_lt_of_le (s2.lt b hb) fr.n⟩
     . intro h' a' _
       simp only [BS,LB,Nat.reduceLT,Nat.reduceEqDiff]
       exact dv (dy ⟨rfl,_,rfl,rfl,.inr (.inl ⟨_,rfl,a'⟩)⟩)
     . intro v h' a'
       exact absurd a' (hz v h')
 . exact⟨yE _,u0,F,hu,by rw [yt],s',fun hm=>hF b2 hm rfl,hj,row2,by simp [aa,ce],by simp [aa,ce,ah],by simp [aa,ce,ah],by simp [aa]⟩
open Tryz in
def Tryz.FFs4141:=aj a1<|aj s1<|aj z1<|aj n1<|aj u2<|aj a2<|aj s2<|aj z2<|aj i2<|aj u3<|aj a3<|aj s3<|aj z3<|aj i3<|aj u4<|aj a4<|aj s4<|aj z4<|aj n4<|aj u40<|aj a40<|aj s40<|aj z40<|aj q40<|n40
def rvC(n k:Nat)(f:Nat->Value):List Value:=(yb n).map fun p=>if p<k\/n<=p+k then f (n-1-p)else f p
theorem ke{n k:Nat}{f:Nat->Value}:(rvC n k f).length=n:=by simp [rvC]
theorem ni{n k i:Nat}{f:Nat->Value}(h:i<n):(rvC n k f)[i]? =some (if i<k\/n<=i+k then f (n-1-i)else f i):=gL (F:=fun p=>if p<k\/n<=p+k then f (n-1-p)else f p) h
theorem rvC_step{n k:Nat}{f:Nat->Value}(h:2*k+1<n):((rvC n k f).set k (f (n-1-k))).set (n-1-k) (f k)=rvC n (k+1) f:=by
 refine yC fun i=>?_
 rw [yM,yM,yI,ke]
 by_cases hi:i<n
 . rw [ni hi,ni hi]
   by_cases e1:n-1-k=i
   . subst e1
     rw [if_pos rfl,if_pos hi,if_pos (.inr (by omega)),show n-1-(n-1-k)=k by omega]
   . rw [if_neg e1]
     by_cases e2:k=i
     . subst e2
       rw [if_pos rfl,if_pos hi,if_pos (.inl (by omega))]
     . rw [if_neg e2]
       congr 1
       by_cases c:i<k\/n<=i+k
       . rw [if_pos c,if_pos (by omega)]
       . rw [if_neg c,if_neg (by omega)]
 . rw [if_neg (by omega),if_neg (by omega)]
   rw [yk (by rw [ke];omega),yk (by rw [ke];omega)]
theorem rvC_zero{xs:List Nat}:xs.flatMap bW=rvC xs.length 0 fun p=>.int .i64 (xs.getD p 0:Nat):=by
 have e:xs.flatMap bW=xs.map fun(x:Nat)=>Value.int .i64 x:=by
  rw [yc,yp,yc];rfl
 rw [e]
 refine yC fun i=>?_
 by_cases hi:i<xs.length
 . rw [ni hi,if_neg (by omega)];simp [hi]
 . rw [yk (by simpa using hi),yk (by rw [ke];omega)]
theorem rvC_done{xs:List Nat}{k:Nat}(h:xs.length<=2*k+1)(hk:2*k<=xs.length):rvC xs.length k (fun p=>.int .i64 (xs.getD p 0:Nat))=xs.reverse.flatMap bW:=by
 have e:xs.reverse.flatMap bW=xs.reverse.map fun(x:Nat)=>Value.int .i64 x:=by
  rw [yc,yp,yc];rfl
 rw [e]
 refine yC fun i=>?_
 by_cases hi:i<xs.length
 . rw [ni hi,ym,List.getElem?_reverse hi]
   have hj:xs.length-1-i<xs.length:=by omega
   rw [xZ hj]
   have g: ∀{j:Nat} (hj:j<xs.length),xs.getD j 0=xs[j]:=fun hj=>by simp [xY,hj]
   by_cases c:i<k\/xs.length<=i+k
   . rw [if_pos c,g hj];rfl
   . rw [if_neg c]
     have:i=xs.length-1-i:=by omega
     rw [g hi]
     simp only [Option.map_some]
     congr 3
     simp only [<-this]
 . rw [yk (by rw [ke];omega),yk (by simpa using hi)]
theorem vI{h0:Hp}(ok:h0.t.Sized h0.n){v:Value}{xs:List Nat}(hG:eQ h0 (v,1,xs.flatMap bW))(hn:xs.length<1000000):
 Ret xW 141 [v] h0 fun _ h'=>Mo (av v) h0 h'/\eQ h' (v,1,xs.reverse.flatMap bW):=by
 rcases hG with⟨e1,e2⟩|⟨b,n,e1,e2,e3⟩
 . simp only []at e1 e2
   subst e1
   have:xs=[]:=by
    cases xs with
    |nil=>rfl
    |cons a l=>simp [bW]at e2
   subst this
   have S:=Si ok
   refine ac (n:=28) (rs:=[]) rfl Tryz.e141 rfl rfl rfl (lbt rfl) ?_
   simp only [BS,LB,Nat.reduceLT,Nat.reduceEqDiff,Int.reduceSub,yB,Tryz.FFs4141]
   rw [bS]
   have wm:au .i64 (-1)= -1:=rfl
   have c0: ¬((0:Int)< -1):=by omega
   simp only [BS,LB,Nat.reduceLT,Nat.reduceEqDiff,wm,c0]
   exact⟨S.gr.fr,.inl ⟨rfl,rfl⟩⟩
 . simp only []at e1 e2 e3
   subst e1
   have en:n=xs.length:=by rw [qu]at e2;omega
   subst en
   rw [rvC_zero]at e3
   have S:=St.init1 ok (o:=.row _ 1) e3
   have w1:au .i64 ((xs.length:Int)-1)=(xs.length:Int)-1:=by rw [wrap64]<;>omega
   refine ac (n:=28) (rs:=[]) rfl Tryz.e141 rfl rfl rfl (lbt rfl) ?_
   simp only [BS,LB,Nat.reduceLT,Nat.reduceEqDiff,Tryz.FFs4141,w1]
   refine aZ (fun(k:Nat) ρ h=>2*k<=xs.length/\St (· =b) h0 h [(b,.row (rvC xs.length k fun p=>.int .i64 (xs.getD p 0:Nat)) 1)] []/\ρ 0=.slice (some ⟨b,0,some 1⟩) xs.length xs.length/\ρ 2=.int .i64 (k:Nat)/\ρ 3=.int .i64 ((xs.length:Int)-1-k)) (fun k=>xs.length-k) ?_ 0 _ _ ?_
   . clear S
     intro k ih ρ hS ⟨hk,S,r0,r2,r3⟩
     by_cases hlt:2*k+1<xs.length
     . have c1:(k:Int)<(xs.length:Int)-1-k:=by omega
       have hk1:k<xs.length:=by omega
       have hk2:xs.length-1-k<xs.length:=by omega
       have ej:(xs.length:Int)-1-k=((xs.length-1-k:Nat):Int):=by omega
       have wa:au .i64 ((k:Int)+1)=((k+1:Nat):Int):=by rw [wrap64]<;>omega
       have wb:au .i64 (((xs.length-1-k:Nat):Int)-1)=(xs.length:Int)-1-(k+1:Nat):=by rw [wrap64]<;>omega
       have q1:=(S.row (b:=b) m0).load1 (ni hk1)
       have q2:=(S.row (b:=b) m0).load1 (ni hk2)
       rw [if_neg (by omega)]at q1 q2
       rw [ej]at r3 c1
       simp only [BS,LB,Nat.reduceLT,Nat.reduceEqDiff,r2,r3,c1]
       refine aC (aH rfl) (q:=0) (ps:=[]) (by kernel_rfl) ?_
       simp only [BS,LB,cls,Nat.reduceLT,Nat.reduceEqDiff,Nat.reduceAdd,Nat.reducePow,Nat.reduceDiv,Nat.reduceMod,Nat.reduceLeDiff,Tryz.FFs4141,r0,r2,r3,hk1,hk2,q1,q2]
       refine c5 (aB S (i:=0) rfl yS bw (by rw [ke];exact hk1) ono) ?_
       clear S;rintro h3 ⟨S,mo1⟩
       simp only [LC]at S
       simp only [BS,LB,cls,Nat.reduceLT,Nat.reduceEqDiff,Nat.reduceAdd,Nat.reducePow,Nat.reduceDiv,Nat.reduceMod,Nat.reduceLeDiff,Tryz.FFs4141,hk2]
       refine c5 (aB S (i:=0) rfl yS bw (by rw [yI,ke];exact hk2) ono) ?_
       clear S;rintro h4 ⟨S,mo2⟩
       simp only [LC]at S
       have st:=rvC_step (f:=fun p=>.int .i64 (xs.getD p 0:Nat)) hlt
       rw [st]at S
       simp only [BS,LB,Nat.reduceLT,Nat.reduceEqDiff,Nat.reduceAdd,r2,r3,wa,wb]
       exact ih (k+1) _ _ (by omega) ⟨by omega,S,by simp [aa,r0],by simp [aa],by simp [aa]⟩
     . have c1: ¬(k:Int)<(xs.length:Int)-1-k:=by omega
       simp only [BS,LB,Nat.reduceLT,Nat.reduceEqDiff,r2,r3,c1]
       have fin:=S.row m0
       rw [rvC_done (by omega) hk]at fin
       exact⟨S.fr.mono (fun c hc=>Eq.symm hc),.inr ⟨b,xs.length,rfl,by show xs.length*1=(xs.reverse.flatMap bW).length;rw [qu,List.length_reverse];omega,fin⟩⟩
   . exact⟨by omega,S,by simp [aa,aV],by simp [aa],by simp [aa]⟩
open Tryz in
def Tryz.FFs597:=aj a1<|aj s1<|aj z1<|aj n1<|aj u2<|aj a2<|aj s2<|aj z2<|aj i2<|aj u3<|aj a3<|aj s3<|aj z3<|aj i3<|aj u4<|aj a4<|aj s4<|aj z4<|aj n4<|aj u5<|aj a5<|aj s5<|aj z5<|aj i5<|aj u6<|aj a6<|aj s6<|aj z6<|aj i6<|aj a7<|aj s7<|aj z7<|aj i7<|aj n7<|aj p7<|aj ff7<|aj d7<|aj a8<|aj s8<|aj z8<|aj i8<|aj n8<|aj p8<|aj ff8<|aj d8<|aj u9<|aj a9<|aj s9<|aj z9<|aj n9<|aj u10<|aj a10<|aj s10<|aj z10<|aj n10<|aj u11<|aj a11<|aj s11<|aj z11<|aj n11<|aj u25<|aj a25<|aj s25<|aj z25<|aj q25<|aj n25<|aj u32<|aj a32<|aj s32<|aj z32<|aj q32<|aj i32<|aj n32<|aj u40<|aj a40<|aj s40<|aj z40<|aj q40<|aj n40<|aj u47<|aj a47<|aj s47<|aj z47<|aj q47<|aj n47<|aj u55<|aj a55<|aj s55<|aj z55<|aj q55<|aj n55<|aj a57<|aj s57<|aj z57<|aj i57<|aj n57<|aj p57<|aj ff57<|aj d57<|aj a99<|aj s99<|aj z99<|aj i99<|aj n99<|aj p99<|aj ff99<|aj d99<|aj a148<|aj s148<|aj z148<|aj i148<|aj n148<|aj p148<|aj ff148<|aj d148<|aj a154<|aj s154<|aj z154<|aj n154<|aj u162<|aj a162<|aj s162<|aj z162<|aj q162<|aj i162<|aj n162<|aj a169<|aj s169<|aj z169<|aj n169<|aj u203<|aj a203<|aj s203<|aj z203<|aj q203<|aj i203<|aj n203<|aj a218<|aj s218<|aj z218<|aj i218<|aj n218<|aj p218<|aj ff218<|aj d218<|aj a222<|aj s222<|aj z222<|aj n222<|aj a248<|aj s248<|aj z248<|aj i248<|aj n248<|aj p248<|aj ff248<|aj d248<|aj a250<|aj s250<|aj z250<|aj i250<|aj n250<|aj p250<|aj ff250<|d250
def zS:SS:=⟨fun _=>none,fun _=>0,fun _=>[],[],[]⟩
def FdAt(h:Hp)(m:Nat)(r:Value)(fd:Fd):Prop:= ∃vA vE,r=.agg ⟨[.int .i64 (fd.dist:Nat),vA,vE]⟩/\eQ h (vA,1,fd.arcs.flatMap bW)/\eQ h (vE,4,fd.ev.flatMap dH)/\(∀c,av vA c->m<=c/\ ¬av vE c)/\ ∀c,av vE c->m<=c
theorem uc(A:List Arc)(al:Nat->Bool)(pi:Nat->Int)(v:Nat)(σ:SS):(mw A al pi v σ).ev.length<=σ.ev.length+A.length:=by
 have: ∀(l:List Nat) (σ:SS),(l.foldl (scan1 A al pi v) σ).ev.length<=σ.ev.length+l.length:=by
  intro l
  induction l with
  |nil=>intro σ;simp
  |cons a l ih=>intro σ;have h1:=ih (scan1 A al pi v σ a);have h2:=uy A al pi v σ a;simp only [List.foldl_cons,List.length_cons];omega
 have h1:=this (outs A Arc.s A.length v) σ
 have h2:=ks A Arc.s A.length v
 unfold mw
 omega
theorem srun_ok {hq h0:Hp} (okq:hq.t.Sized hq.n) (gq:Gr hq h0) {γ:Gra} (hγ:Good γ) {nb bp:Nat} (hn:bT hq nb (ptrTo bp) γ) {B0:List Nat} {br ba s to:Nat} {g1 g2:FuncId} {al:Nat->Bool} {pi:Nat->Int} (R0:eU h0 B0 br (ptrTo bp) (.func (.func g1) #[] #[ptrTo ba]) (.func (.func g2) #[] #[ptrTo ba]) γ.nodes zS) (hB0: ∀c∈B0,hq.n<=c) (hal:AlF xW hq g1 ba γ.arcs.length al) (hpi:PiF xW hq g2 ba γ.nodes pi) (hp: ∀v,v<γ.nodes-> -(FAR:Int)<=pi v)
 (hs:s<γ.nodes) (hto:to<γ.nodes):
 Ret xW 97 [ptrTo br,.int .i64 (s:Nat),.int .i64 (to:Nat)] h0 fun r h'=>Gr hq h'/\ ∃fd,Ends γ.arcs al pi to (da pi s) fd/\FdAt h' hq.n r fd:=by
 have ok:=gq.ok
 have n1:=hγ.n1
 have n2:=hγ.n2
 have many:=hγ.many
 have wm:=kC
 have fr:=dX
 have hA: ∀a∈γ.arcs,a.t<γ.nodes/\a.w<=cK:=fun a ha=>⟨(hγ.arcs a ha).2.1,(hγ.arcs a ha).2.2⟩
 have lB:=R0.lt ok
 have S:=Si ok
 refine ac (n:=79) (rs:=[.cell 6 99]) rfl Tryz.e97 rfl rfl rfl (lbt rfl) ?_
 simp only [BS,Tryz.FFs597]
 refine ae aw S ?_;clear S;intro h b6 S n_b6
 simp only [BS,LB,Nat.reduceLT,Nat.reduceEqDiff]
 have row6:=S.row (b:=b6) m0
 have gA:=S.gr
 have okA:=S.ok
 have l6:=row6.lt okA
 have n6:b6∉B0:=fun h=>by have:=lB b6 h;have:=n_b6;omega
 have q6:hq.n<=b6:=xX gq.n n_b6
 clear S
 rename Hp=>hA'
 have rc:Ret xW 138 [ptrTo br,.int .i64 (s:Nat),.int .i64 0,.int .i64 (-1)] hA' _:=sy (p:=[]) (lab:=0) (gq.trans gA) (R0.gr gA) hpi n2 hs (yE _) (hp s hs) (fun k h=>by cases h)
 refine step_ret rc ?_
 rintro r h1 ⟨f1,B1,R1,hB1⟩
 clear rc
 simp only [BS]
 refine aZ (fun(σ:SS) ρ h=> ∃B,Mo (fun c=>c∈B0\/c=b6) hA' h/\Row h b6 [.int .i64 0,.slice none 0 0,.slice none 0 0] 1/\eU h B br (ptrTo bp) (.func (.func g1) #[] #[ptrTo ba]) (.func (.func g2) #[] #[ptrTo ba]) γ.nodes σ/\(∀c∈B,c∈B0\/hA'.n<=c)/\Sv γ.arcs γ.nodes s al pi σ/\σ.ev.length<=σ.O.length*200/\(∀r,Ends γ.arcs al pi to σ r->Ends γ.arcs al pi to (da pi s) r)/\ρ 0=ptrTo br/\ρ 1=.int .i64 (s:Nat)/\ρ 2=.int .i64 (to:Nat)/\ρ 6=ptrTo b6) (fun σ=>γ.nodes-σ.O.length) ?_ (da pi s) _ _ ?_
 . clear R1 f1 hB1 B1 h1
   intro σ ih ρ hS ⟨B,f,row6',R,hB,sv,hev,hE,r0,r1,r2,r6⟩
   have hBq: ∀c∈B,hq.n<=c:=fun c hc=>(hB c hc).elim (hB0 c) (fun h=>by have:=(gq.trans gA).n;omega)
   have gh:Gr hq hS:=(((gq.trans gA).fr (M:=NoM)).trans f (fun c hc=>.inr (hc.elim (hB0 c) (fun e=>by subst e;exact q6)))).gr
   have b6B:b6∉B:=fun h=>(hB b6 h).elim n6 (fun h=>by omega)
   have ol:=sv.len
   have ol2:σ.O.length*cK<=12*cK:=yw _ (xX ol n2)
   obtain⟨bl,bb,bk,ph,F,vE,hBe,S,H,hF⟩:=R.open f.ok
   have hk0: ∀c∈keys (srL br bl bb bk γ.nodes (ptrTo bp) (ptrTo ph) (.func (.func g1) #[] #[ptrTo ba]) (.func (.func g2) #[] #[ptrTo ba]) vE σ) (srG vE σ),c∈B:=fun c hc=>by rw [hBe];exact ya _ hc
   have hk1: ∀c∈F,c∈B:=fun c hc=>by rw [hBe];exact yd _ hc
   have lF:=H.lt f.ok
   replace S:=(S.base.mono (M':=fun c=>c∈B\/c=b6) (fun c hc=>.inl (hk0 c hc))).push (b:=b6) (o:=.row _ 1) (.inr (.inr rfl)) row6' (fun h=>b6B (hk0 b6 h))
   have hF6: ∀c∈F,c≠b6:=fun c hc e=>b6B (by rw [<-e];exact hk1 c hc)
   have hFS: ∀c∈F,c∉keys ((b6,Ob.row [.int .i64 0,.slice none 0 0,.slice none 0 0] 1)::srL br bl bb bk γ.nodes (ptrTo bp) (ptrTo ph) (.func (.func g1) #[] #[ptrTo ba]) (.func (.func g2) #[] #[ptrTo ba]) vE σ) (srG vE σ):=fun c hc hm=>(List.mem_cons.1 hm).elim (hF6 c hc) (hF c hc)
   unfold srL srG at S
   simp only [BS,LB,Nat.reduceLT,Nat.reduceEqDiff,Tryz.FFs597,r0,S.ld (b:=br) (o:=1) m1 rfl]
   refine step_ret (qK S.ok H (by omega)) ?_
   rintro rv h2 (⟨rfl,hnone,g2'⟩|⟨v,k,rfl,hk,hmin,f2,H2⟩)
   . replace S:=S.call g2'
     have fvE:Fl vE:=(S.gown _ m0).1.fl
     simp only [BS,LB,Nat.reduceLT,Nat.reduceEqDiff,Nat.reduceAdd,Tryz.FFs597,r0,r6,fvE,S.ld (b:=br) (o:=7) m1 rfl]
     refine az (S.store (i:=0) rfl yG (by intro x e;cases e) rfl (by simp only [ag,yx,yA,fvE.2.1,yi];rfl) (lbt rfl) ono) ?_
     clear S;rintro h3 ⟨S,mo⟩
     simp only [LC,ag,lay,yg,yh,Nat.reduceAdd]at S
     simp only [BS,ab]
     refine(cF (by decide) (by simp only [aK,r6,ah,Nat.reduceEqDiff,reduceIte];exact cm yZ yG (S.lds (b:=b6) (o:=0) (n:=3) m0 (lbt rfl)))).2 (dr.2 ?_)
     refine⟨(gh.fr (M:=NoM)).trans S.fr (fun c hc=>.inr (hc.elim (hBq c) (fun e=>by subst e;exact q6)))|>.gr,_,hE _ (.none hnone),.slice none 0 0,vE,rfl,.inl ⟨rfl,rfl⟩,(S.gown _ m0).1,fun c hc=>hc.elim,fun c hc=>?_⟩
     have:=(S.gown _ m0).2 c (nA (S.gown _ m0).1 hc)
     exact this.elim (fun h=>xX gh.n h) (fun h=>h.elim (hBq c) (fun e=>by subst e;exact q6))
   . have hpop:Pops σ.K v k:=⟨hk,hmin⟩
     obtain⟨ov,nO,pv,ek⟩:=sv.op v k hk
     replace S:=S.stepF f2 (fun c hc=>⟨.inl (.inl (hk1 c hc)),hFS c hc⟩)
     have bv:=(sv.bd v).1
     have Sp:=S
     have lF2:=H2.lt Sp.ok
     have kp: ∀c∈keys ((b6,Ob.row [.int .i64 0,.slice none 0 0,.slice none 0 0] 1)::srL br bl bb bk γ.nodes (ptrTo bp) (ptrTo ph) (.func (.func g1) #[] #[ptrTo ba]) (.func (.func g2) #[] #[ptrTo ba]) vE σ) (srG vE σ),hS.n<=c\/c∈B\/c=b6:=fun c hc=>Sp.key_own hc
     have kl:=fun {c} hc=>Sp.key_lt (b:=c) hc
     have np:=Sp.fr.n
     replace S:=S.base
     have fvE:Fl vE:=(S.gown _ m0).1.fl
     simp only [BS,LB,Nat.reduceLT,Nat.reduceEqDiff,Tryz.FFs597,r0,ov,S.ld (b:=br) (o:=4) m1 rfl]
     refine az (aB S (i:=4) rfl Tryz.s4 mU (by rw [clC_len];exact ov) ono) ?_
     clear S;rintro h3 ⟨S,mo3⟩
     simp only [LC]at S
     rw [clC_set]at S
     have lL:=(S.row (b:=bl) m2).load1 (pf (L:=σ.L) ov)
     simp only [BS]
     refine aC (aH rfl) (q:=16384) (ps:=[]) (by kernel_rfl) ?_
     simp only [BS,LB,cls,Nat.reduceLT,Nat.reduceEqDiff,Nat.reduceAdd,Nat.reducePow,Nat.reduceDiv,Nat.reduceMod,Nat.reduceLeDiff,Tryz.FFs597,r0,ov,lL,S.ld (b:=br) (o:=7) m1 rfl,S.ld (b:=br) (o:=2) m1 rfl]
     refine dt (bL (by exact yY) (by exact yW) (by decide) (by rfl)) S ?_;clear S;intro h bs S n_bs e_bs;simp only [LC,aU,bI,ag,Nat.reduceMul,Nat.reduceAdd,yr,yo,yy,yz]at S
     simp only [BS,LB,cls,Nat.reduceLT,Nat.reduceEqDiff,Nat.reduceAdd,Nat.reducePow,Nat.reduceDiv,Nat.reduceMod,Nat.reduceLeDiff]
     have src:aO h 4 (.slice (some ⟨bs,0,none⟩) 1 1)=some (1,dH ⟨0,v,σ.L v⟩):=by simp only [aO];rw [S.lds (b:=bs) (o:=0) (n:=1*4) m0 (lbt rfl)];rfl
     replace S:=S.drop1
     refine dn_v (S.grow (j:=0) (m:=1) (new:=dH ⟨0,v,σ.L v⟩) rfl yY yW (by decide) Tryz.n47 src rfl (by decide) rfl (by rw [bj mi];show(_+4)*_<=_;omega)) ?_
     clear S src;rintro h2 vE' S
     simp only [LC]at S
     have fvE':Fl vE':=(S.gown _ m0).1.fl
     simp only [BS,LB,cls,Nat.reduceLT,Nat.reduceEqDiff,Nat.reduceAdd,Nat.reducePow,Nat.reduceDiv,Nat.reduceMod,Nat.reduceLeDiff,Tryz.FFs597]
     refine c5 (aB S (i:=1) rfl Tryz.s47 fvE' (ye (lbt rfl)) ono) ?_
     clear S;rintro h3 ⟨S,_⟩
     simp only [LC]at S
     have eE:(σ.ev++[(⟨0,v,σ.L v⟩:Ev)]).flatMap dH=σ.ev.flatMap dH++dH ⟨0,v,σ.L v⟩:=by rw [yJ];simp
     rw [<-eE]at S
     have bq: ∀c,hS.n<=c\/c∈B\/c=b6->hq.n<=c:=fun c hc=>hc.elim (fun h=>xX gh.n h) (fun h=>h.elim (hBq c) (fun e=>by subst e;exact q6))
     have wq:=(((gh.fr (M:=NoM)).trans Sp.fr (fun c hc=>.inr (bq c (.inr hc)))).trans S.fr (fun c hc=>.inr (bq c (kp c hc)))).gr
     have svc:=sv.close hk
     have kn:=fun {c} hc=>S.key_own (b:=c) hc
     have nS:=S.fr.n
     have hFc: ∀c∈F,c∉keys (srL br bl bb bk γ.nodes (ptrTo bp) (ptrTo ph) (.func (.func g1) #[] #[ptrTo ba]) (.func (.func g2) #[] #[ptrTo ba]) vE' (cG σ v)) (srG vE' (cG σ v)):=fun c hc hm=>by
      rcases kn (yf _ hm)with h|h
      . have:=lF2 c hc;omega
      . exact hFS c hc h
     have Hc:cy _ F (ptrTo ph) γ.nodes (cG σ v).K:=H2.mo S.fr (fun c hc hm=>hFS c hc hm)
     have Rc:=eU.close (σ:=cG σ v) (vE:=vE') S.drop1 Hc hFc
     have hBc: ∀c∈keys (srL br bl bb bk γ.nodes (ptrTo bp) (ptrTo ph) (.func (.func g1) #[] #[ptrTo ba]) (.func (.func g2) #[] #[ptrTo ba]) vE' (cG σ v)) (srG vE' (cG σ v))++F,hS.n<=c\/c∈B:=fun c hc=>by
      rcases List.mem_append.1 hc with hc|hc
      . have ne:c≠b6:=fun e=>by
         subst e
         exact(List.nodup_cons.1 S.apart).1 hc
        rcases kn (yf _ hc)with h|h
        . exact .inl (by omega)
        . exact(kp c h).imp (fun h=>h) (fun h=>h.elim (fun h=>h) (fun e=>absurd e ne))
      . exact .inr (hk1 c hc)
     have hBcq: ∀c∈keys (srL br bl bb bk γ.nodes (ptrTo bp) (ptrTo ph) (.func (.func g1) #[] #[ptrTo ba]) (.func (.func g2) #[] #[ptrTo ba]) vE' (cG σ v)) (srG vE' (cG σ v))++F,hq.n<=c:=fun c hc=>bq c ((hBc c hc).imp (fun h=>h) .inl)
     have okc:=S.ok
     have k3:=fun {c} hc=>S.key_lt (b:=c) hc
     have bo: ∀c,hS.n<=c\/c∈B\/c=b6->(c∈B0\/c=b6)\/hA'.n<=c:=fun c hc=>hc.elim (fun h=>.inr (xX f.n h)) (fun h=>h.elim (fun h=>(hB c h).imp .inl (fun h=>h)) (fun e=>.inl (.inr e)))
     have lbc:=Rc.lt okc
     by_cases hv:v=to
     . subst hv
       simp only [BS,LB,Nat.reduceLT,Nat.reduceEqDiff,Nat.reduceAdd,r0,r2]
       refine step_ret (sback_ok S.ok) ?_
       rintro rv h4 ⟨g4,b1,b2,rfl,nb1,nb2,nb,e1,e2⟩
       replace S:=S.call g4
       have gn4:=g4.n
       simp only [BS,LB,Nat.reduceLT,Nat.reduceEqDiff]
       have pl:=(svc.bd v).2
       have ol4:=svc.len
       refine step_ret (v9 S.ok (back_it okq (wq.trans g4) hγ hn (Rc.gr g4) svc (yd _ (by simp)) e1 e2 (fun h=>by have:=lbc b2 h;omega) nb (xX wq.n nb2)) (fun b hb=>by subst hb;exact e2.lt g4.ok) (by omega)) ?_
       rintro vA h5 ⟨fW,gA5,hcA⟩
       replace S:=S.step fW (fun c hc=>.inr (by subst hc;omega)) (fun c hc e=>by subst e;have:=k3 hc;omega)
       simp only [BS,LB,Nat.reduceLT,Nat.reduceEqDiff]
       refine step_ret (vI S.ok gA5 (by omega)) ?_
       rintro rv h6 ⟨fR,gR⟩
       have gn5:=fW.n
       have nAk: ∀c,av vA c->_<=c:=hcA
       replace S:=S.step fR (fun c hc=>.inr (by have:=hcA c hc;omega)) (fun c hc hb=>by have:=k3 hc;have:=hcA c hb;omega)
       have fvA:Fl vA:=gR.fl
       have lL:=(S.row (b:=bl) m2).load1 (pf (L:=σ.L) ov)
       simp only [BS]
       refine aC (aH rfl) (q:=0) (ps:=[]) (by kernel_rfl) ?_
       simp only [BS,LB,cls,Nat.reduceLT,Nat.reduceEqDiff,Nat.reduceAdd,Nat.reducePow,Nat.reduceDiv,Nat.reduceMod,Nat.reduceLeDiff,Tryz.FFs597,r0,r2,r6,ov,lL,fvE',fvA,S.ld (b:=br) (o:=2) m1 rfl,S.ld (b:=br) (o:=7) m1 rfl]
       refine c5 (S.store (i:=0) rfl yG (by intro x e;cases e) rfl (by simp only [ag,yx,yA,fvE'.2.1,fvA.2.1,yi];rfl) (lbt rfl) ono) ?_
       have b6A: ∀c,av vA c->c≠b6:=fun c hc e=>by have:=hcA c hc;have:=k3 (c:=b6) (by simp [keys]);omega
       have kA: ∀c,av vA c-> ¬av vE' c:=fun c hc he=>by
        have:=hcA c hc
        have:=k3 (fi (p:=(vE',4,_)) m0 (nA (S.gown _ m0).1 he))
        omega
       clear S;rintro h7 ⟨S,mo⟩
       simp only [LC,ag,lay,yg,yh,Nat.reduceAdd]at S
       simp only [BS,LB,ab,Nat.reduceAdd]
       refine(cF (by decide) (by simp only [aK,r6,ah,Nat.reduceEqDiff,reduceIte];exact cm yZ yG (S.lds (b:=b6) (o:=0) (n:=3) m0 (lbt rfl)))).2 (dr.2 ?_)
       have wq7:=(((gh.fr (M:=NoM)).trans Sp.fr (fun c hc=>.inr (bq c (.inr hc)))).trans S.fr (fun c hc=>.inr (bq c (kp c hc)))).gr
       refine⟨wq7,_,hE _ (.hit hpop),vA,vE',rfl,gR.of_get (fun c hc=>mo.get c (gR.lt fR.ok hc) ?_),(S.gown _ m0).1,fun c hc=>⟨by have:=hcA c hc;have:=wq.n;omega,kA c hc⟩,fun c hc=>?_⟩
       . obtain⟨a',n',e',_⟩: ∃a' n',vA=Value.slice (some ⟨a',0,some 1⟩) n' n'/\a'=c:=by
          rcases gR with⟨e,_⟩|⟨b',n',e,_⟩
          . simp only []at e;rw [e]at hc;cases hc
          . simp only []at e;rw [e]at hc;cases hc;exact⟨_,_,e,rfl⟩
         exact b6A c (by rw [e'];assumption)
       . exact bq c (((S.gown _ m0).2 c (nA (S.gown _ m0).1 hc)).elim (fun h=>.inl (xX np h)) (fun h=>kp c h))
     . have hv': ¬((v:Int)=(to:Int)):=by omega
       simp only [BS,LB,Nat.reduceLT,Nat.reduceEqDiff,Nat.reduceAdd,r0,r2,hv']
       obtain⟨sn1,sn2⟩:=sv.next hA hk
       refine step_ret (sscan_ok okq wq hγ hn Rc hBcq hal hpi hp ov svc (sv.room v) (by show(σ.ev++[_]).length<=10000;simp;omega)) ?_
       rintro rv h4 ⟨f4,B4,R4,hB4⟩
       simp only [BS]
       have es:=uc γ.arcs al pi v (cG σ v)
       have eO:(mw γ.arcs al pi v (cG σ v)).O=σ.O++[v]:=sn2.O
       have ec:(cG σ v).ev.length=σ.ev.length+1:=by show(σ.ev++[_]).length=_;simp
       have snl:=sn1.len
       rw [eO]at snl
       simp at snl
       refine ih _ _ _ (by rw [eO];simp;omega) ⟨B4,?_,?_,R4,?_,sn1,by rw [eO];simp;omega,fun r hr=>hE r (.step hpop hv hr),by simp [aa,r0,ah],by simp [aa,r1],by simp [aa,r2],by simp [aa,r6,ah]⟩
       . exact((f.trans Sp.fr (fun c hc=>bo c (.inr hc))).trans S.fr (fun c hc=>bo c (kp c hc))).trans f4 (fun c hc=>bo c ((hBc c hc).imp (fun h=>h) .inl))
       . exact f4.has (o:=.row _ 1) (S.row m0) (fun hm=>(hBc b6 hm).elim (fun h=>by have:=f.n;omega) b6B)
       . exact fun c hc=>(hB4 c hc).elim (fun h=>(hBc c h).elim (fun h=>.inr (xX f.n h)) (hB c)) (fun h=>.inr (by have:=f.n;omega))
 . have k0:(da pi s).ev.length=0:=by unfold da;rw [pX];rfl
   exact⟨B1,f1.mono (fun c hc=>.inl hc),f1.has (o:=.row _ 1) row6 n6,R1,hB1,nl hs,by omega,fun r hr=>hr,by simp [aa,aV,ah],by simp [aa,aV,bV],by simp [aa,aV,bV],by simp [aa,ah]⟩
open Tryz in
def Tryz.FFs6136:=aj a1<|aj s1<|aj z1<|aj n1<|aj u2<|aj a2<|aj s2<|aj z2<|aj i2<|aj u3<|aj a3<|aj s3<|aj z3<|aj i3<|aj u4<|aj a4<|aj s4<|aj z4<|aj n4<|aj u25<|aj a25<|aj s25<|aj z25<|aj q25<|aj n25<|aj u55<|aj a55<|aj s55<|aj z55<|aj q55<|aj n55<|aj a104<|aj s104<|aj z104<|aj i104<|aj n104<|aj p104<|aj ff104<|d104
open Tryz in
def Tryz.FFs6137:=aj a1<|aj s1<|aj z1<|aj n1<|aj u2<|aj a2<|aj s2<|aj z2<|aj i2<|aj u3<|aj a3<|aj s3<|aj z3<|aj i3<|aj u4<|aj a4<|aj s4<|aj z4<|aj n4<|aj u25<|aj a25<|aj s25<|aj z25<|aj q25<|aj n25<|aj u55<|aj a55<|aj s55<|aj z55<|aj q55<|aj n55<|aj a104<|aj s104<|aj z104<|aj i104<|aj n104<|aj p104<|aj ff104<|d104
open Tryz in
def Tryz.FFs696:=aj a1<|aj s1<|aj z1<|aj n1<|aj u2<|aj a2<|aj s2<|aj z2<|aj i2<|aj u3<|aj a3<|aj s3<|aj z3<|aj i3<|aj u4<|aj a4<|aj s4<|aj z4<|aj n4<|aj u5<|aj a5<|aj s5<|aj z5<|aj i5<|aj u6<|aj a6<|aj s6<|aj z6<|aj i6<|aj u25<|aj a25<|aj s25<|aj z25<|aj q25<|aj n25<|aj a30<|aj s30<|aj z30<|aj i30<|aj n30<|aj p30<|aj ff30<|aj d30<|aj u32<|aj a32<|aj s32<|aj z32<|aj q32<|aj i32<|aj n32<|aj u40<|aj a40<|aj s40<|aj z40<|aj q40<|aj n40<|aj u47<|aj a47<|aj s47<|aj z47<|aj q47<|aj n47<|aj u55<|aj a55<|aj s55<|aj z55<|aj q55<|aj n55<|aj a57<|aj s57<|aj z57<|aj i57<|aj n57<|aj p57<|aj ff57<|aj d57<|aj a104<|aj s104<|aj z104<|aj i104<|aj n104<|aj p104<|aj ff104<|aj d104<|aj u146<|aj a146<|aj s146<|aj z146<|aj q146<|aj n146<|aj a148<|aj s148<|aj z148<|aj i148<|aj n148<|aj p148<|aj ff148<|aj d148<|aj a154<|aj s154<|aj z154<|aj n154<|aj u162<|aj a162<|aj s162<|aj z162<|aj q162<|aj i162<|aj n162<|aj a169<|aj s169<|aj z169<|aj n169<|aj u203<|aj a203<|aj s203<|aj z203<|aj q203<|aj i203<|aj n203<|aj a218<|aj s218<|aj z218<|aj i218<|aj n218<|aj p218<|aj ff218<|aj d218<|aj a248<|aj s248<|aj z248<|aj i248<|aj n248<|aj p248<|aj ff248<|aj d248<|aj a250<|aj s250<|aj z250<|aj i250<|aj n250<|aj p250<|aj ff250<|d250
open Tryz in
def Tryz.FFs693:=aj a1<|aj s1<|aj z1<|aj n1<|aj u3<|aj a3<|aj s3<|aj z3<|aj i3<|aj u4<|aj a4<|aj s4<|aj z4<|aj n4<|aj u55<|aj a55<|aj s55<|aj z55<|aj q55<|n55
open Tryz in
def Tryz.FFs695:=aj a1<|aj s1<|aj z1<|aj n1<|aj u2<|aj a2<|aj s2<|aj z2<|aj i2<|aj u3<|aj a3<|aj s3<|aj z3<|aj i3<|aj u4<|aj a4<|aj s4<|aj z4<|aj n4<|aj u25<|aj a25<|aj s25<|aj z25<|aj q25<|n25
open Tryz in
def Tryz.FFs694:=aj a1<|aj s1<|aj z1<|aj n1<|aj u2<|aj a2<|aj s2<|aj z2<|aj i2<|aj u3<|aj a3<|aj s3<|aj z3<|aj i3<|aj u4<|aj a4<|aj s4<|aj z4<|aj n4<|aj u25<|aj a25<|aj s25<|aj z25<|aj q25<|aj n25<|aj u28<|aj a28<|aj s28<|aj z28<|aj q28<|aj n28<|aj a30<|aj s30<|aj z30<|aj i30<|aj n30<|aj p30<|aj ff30<|aj d30<|aj u32<|aj a32<|aj s32<|aj z32<|aj q32<|aj i32<|aj n32<|aj u40<|aj a40<|aj s40<|aj z40<|aj q40<|aj n40<|aj a59<|aj s59<|aj z59<|aj i59<|aj n59<|aj p59<|aj ff59<|aj d59<|aj u146<|aj a146<|aj s146<|aj z146<|aj q146<|aj n146<|aj a148<|aj s148<|aj z148<|aj i148<|aj n148<|aj p148<|aj ff148<|d148
open Tryz in
def Tryz.FFs692:=aj a1<|aj s1<|aj z1<|aj n1<|aj u3<|aj a3<|aj s3<|aj z3<|aj i3<|aj u4<|aj a4<|aj s4<|aj z4<|aj n4<|aj a30<|aj s30<|aj z30<|aj i30<|aj n30<|aj p30<|aj ff30<|aj d30<|aj u32<|aj a32<|aj s32<|aj z32<|aj q32<|aj i32<|aj n32<|aj u146<|aj a146<|aj s146<|aj z146<|aj q146<|aj n146<|aj a148<|aj s148<|aj z148<|aj i148<|aj n148<|aj p148<|aj ff148<|d148
open Tryz in
def Tryz.FFs643:=aj a1<|aj s1<|aj z1<|aj n1<|aj u2<|aj a2<|aj s2<|aj z2<|aj i2<|aj u3<|aj a3<|aj s3<|aj z3<|aj i3<|aj u4<|aj a4<|aj s4<|aj z4<|aj n4<|aj u5<|aj a5<|aj s5<|aj z5<|aj i5<|aj u6<|aj a6<|aj s6<|aj z6<|aj i6<|aj a7<|aj s7<|aj z7<|aj i7<|aj n7<|aj p7<|aj ff7<|aj d7<|aj a8<|aj s8<|aj z8<|aj i8<|aj n8<|aj p8<|aj ff8<|aj d8<|aj u25<|aj a25<|aj s25<|aj z25<|aj q25<|aj n25<|aj a30<|aj s30<|aj z30<|aj i30<|aj n30<|aj p30<|aj ff30<|aj d30<|aj u32<|aj a32<|aj s32<|aj z32<|aj q32<|aj i32<|aj n32<|aj u40<|aj a40<|aj s40<|aj z40<|aj q40<|aj n40<|aj u44<|aj a44<|aj s44<|aj z44<|aj i44<|aj u47<|aj a47<|aj s47<|aj z47<|aj q47<|aj n47<|aj u55<|aj a55<|aj s55<|aj z55<|aj q55<|aj n55<|aj a57<|aj s57<|aj z57<|aj i57<|aj n57<|aj p57<|aj ff57<|aj d57<|aj a99<|aj s99<|aj z99<|aj i99<|aj n99<|aj p99<|aj ff99<|aj d99<|aj a104<|aj s104<|aj z104<|aj i104<|aj n104<|aj p104<|aj ff104<|aj d104<|aj u146<|aj a146<|aj s146<|aj z146<|aj q146<|aj n146<|aj a148<|aj s148<|aj z148<|aj i148<|aj n148<|aj p148<|aj ff148<|aj d148<|aj a154<|aj s154<|aj z154<|aj n154<|aj u162<|aj a162<|aj s162<|aj z162<|aj q162<|aj i162<|aj n162<|aj a169<|aj s169<|aj z169<|aj n169<|aj u203<|aj a203<|aj s203<|aj z203<|aj q203<|aj i203<|aj n203<|aj a218<|aj s218<|aj z218<|aj i218<|aj n218<|aj p218<|aj ff218<|d218
def alF(als:List Bool)(a:Nat):Bool:=als.isEmpty||als.getD a false
def piF(pis:List Int)(v:Nat):Int:=if pis=[]then 0 else max (-72057594037927936) (pis.getD v 0)
theorem piF_lo(pis:List Int)(v:Nat): -(FAR:Int)<=piF pis v:=by
 have:=dX
 unfold piF
 split<;>omega
theorem al_ok{hq:Hp}{ba n:Nat}{vAl:Value}{als:List Bool}(l2:hq.load ba 2 1=some [vAl])(sl:aA hq 1 encB vAl als)(hl:als=[]\/als.length=n):AlF xW hq 136 ba n (alF als):=by
 intro h g a ha
 have S:=Si g.ok
 have q2:=g.load l2
 have sl2:=sl.gr g
 rcases hl with rfl|hl
 . refine ac (n:=15) (rs:=[.tmp 3]) rfl Tryz.e136 rfl rfl rfl (lbt rfl) ?_
   simp only [BS,LB,ab,Nat.reduceLT,Nat.reduceEqDiff,yB,Tryz.FFs6136,q2,sl2.lenq]
   exact⟨rfl,S.gr⟩
 . have c0: ¬((als.length:Int)=0):=by omega
   have ha':a<als.length:=by omega
   obtain⟨c,o,hidx,hld⟩:=sl2.ix (kd:=.i64) encB_len ha'
   have e:alF als a=als[a]:=by
    unfold alF
    cases als with
    |nil=>simp at ha'
    | cons b l=>
      show(false||(b::l).getD a false)=_
      rw [xY,xZ ha'];rfl
   rw [e]
   refine ac (n:=15) (rs:=[.tmp 3]) rfl Tryz.e136 rfl rfl rfl (lbt rfl) ?_
   simp only [BS,LB,ab,Nat.reduceLT,Nat.reduceEqDiff,Tryz.FFs6136,q2,sl2.lenq,c0,hidx,hld,encB]
   exact S.gr
theorem pi_ok{hq:Hp}{ba n:Nat}{vPi:Value}{pis:List Int}(l2:hq.load ba 3 1=some [vPi])(sl:aA hq 1 (encI .i64) vPi pis)(hl:pis=[]\/pis.length=n):PiF xW hq 137 ba n (piF pis):=by
 intro h g a ha
 have S:=Si g.ok
 have q2:=g.load l2
 have sl2:=sl.gr g
 rcases hl with rfl|hl
 . refine ac (n:=14) (rs:=[.tmp 3]) rfl Tryz.e137 rfl rfl rfl (lbt rfl) ?_
   simp only [BS,LB,ab,Nat.reduceLT,Nat.reduceEqDiff,yB,Tryz.FFs6137,q2,sl2.lenq]
   exact⟨rfl,S.gr⟩
 . have c0: ¬((pis.length:Int)=0):=by omega
   have ha':a<pis.length:=by omega
   obtain⟨c,o,hidx,hld⟩:=sl2.ix (kd:=.i64) (dJ .i64) ha'
   have e:piF pis a=max (-72057594037927936) pis[a]:=by
    unfold piF
    rw [if_neg (by intro e;subst e;simp at ha')]
    simp [xY,ha']
   rw [e]
   refine ac (n:=14) (rs:=[.tmp 3]) rfl Tryz.e137 rfl rfl rfl (lbt rfl) ?_
   simp only [BS,LB,ab,Nat.reduceLT,Nat.reduceEqDiff,Tryz.FFs6137,q2,sl2.lenq,c0,hidx,hld,encI]
   exact S.gr
theorem sstart_ok{h0:Hp}(ok:h0.t.Sized h0.n){γ:Gra}(hγ:Good γ){nb bp:Nat}(hn:bT h0 nb (ptrTo bp) γ){s to:Int}{vAl vPi:Value}(fA:Fl vAl)(fP:Fl vPi):
 Ret xW 96 [ptrTo bp,.agg ⟨[.int .i64 s,.int .i64 to,vAl,vPi]⟩] h0 fun r h'=> ∃br ba hq B,r=ptrTo br/\Gr h0 hq/\Gr hq h'/\hq.load ba 2 1=some [vAl]/\hq.load ba 3 1=some [vPi]/\eU h' B br (ptrTo bp) (.func (.func 136) #[] #[ptrTo ba]) (.func (.func 137) #[] #[ptrTo ba]) γ.nodes zS/\ ∀c∈B,hq.n<=c:=by
 have n1:=hγ.n1
 have n2:=hγ.n2
 have S:=Si ok
 refine ac (n:=34) (rs:=[.tmp 4]) rfl Tryz.e96 rfl rfl rfl (lbt rfl) ?_
 simp only [BS,Nat.reduceLT]
 refine ae (bE (by intro x e;cases e)) S ?_;clear S;intro h ba S n_ba;simp only [ag]at S
 have gq:=S.gr
 have l2:=S.ld (b:=ba) (o:=2) m0 rfl
 have l3:=S.ld (b:=ba) (o:=3) m0 rfl
 clear S
 rename Hp=>hq
 replace hn:=hn.gr gq
 have S:=Si gq.ok
 simp only [BS]
 refine aC (aH rfl) (q:=2880) (ps:=[]) (by kernel_rfl) ?_
 simp only [BS,LB,cls,Nat.reduceLT,Nat.reduceEqDiff,Nat.reduceAdd,Nat.reducePow,Nat.reduceDiv,Nat.reduceMod,Nat.reduceLeDiff]
 refine cE (cH S.ok (hn.gr S.gr)) ?_;intro h g;replace S:=S.call g;clear g
 simp only [BS,LB,cls,Nat.reduceLT,Nat.reduceEqDiff,Nat.reduceAdd,Nat.reducePow,Nat.reduceDiv,Nat.reduceMod,Nat.reduceLeDiff]
 refine dg (qE S.ok) ?_;rintro rp h ⟨g,F,H,hF⟩
 have k0:=S.fr.n
 replace S:=S.call g;clear g
 have pp: ∃b,rp=ptrTo b:=by obtain⟨b,_,_,e,_⟩:=H.ex;exact⟨b,e⟩
 obtain⟨ph,rfl⟩:=pp
 have S0:=S
 have lF:=H.lt S0.ok
 rename Hp=>h_H
 replace S:=S.base
 simp only [BS,LB,cls,Nat.reduceLT,Nat.reduceEqDiff,Nat.reduceAdd,Nat.reducePow,Nat.reduceDiv,Nat.reduceMod,Nat.reduceLeDiff]
 refine cE (cH S.ok (hn.gr (S0.rebase S).gr)) ?_;intro h g;replace S:=S.call g;clear g
 simp only [BS,LB,cls,Nat.reduceLT,Nat.reduceEqDiff,Nat.reduceAdd,Nat.reducePow,Nat.reduceDiv,Nat.reduceMod,Nat.reduceLeDiff]
 refine dt (kN (by exact Tryz.u25) (by exact Tryz.e2E) (by omega) (by omega)) S ?_;clear S;intro h bl S n_bl e_bl
 simp only [BS,LB,cls,Nat.reduceLT,Nat.reduceEqDiff,Nat.reduceAdd,Nat.reducePow,Nat.reduceDiv,Nat.reduceMod,Nat.reduceLeDiff,Int.toNat_natCast]
 refine sf (cH (h0:={h with lo:=h.n}) S.ok ((hn.gr (S0.rebase S).gr).keep S.ok (fun _ _=>rfl))) ?_;intro h g;replace S:=S.call g;clear g
 simp only [BS,LB,cls,Nat.reduceLT,Nat.reduceEqDiff,Nat.reduceAdd,Nat.reducePow,Nat.reduceDiv,Nat.reduceMod,Nat.reduceLeDiff]
 refine dt (kN (by exact Tryz.u55) (by exact Tryz.e4E) (by omega) (by omega)) S ?_;clear S;intro h bk S n_bk e_bk
 simp only [BS,LB,cls,Nat.reduceLT,Nat.reduceEqDiff,Nat.reduceAdd,Nat.reducePow,Nat.reduceDiv,Nat.reduceMod,Nat.reduceLeDiff,Tryz.FFs696,Int.toNat_natCast]
 refine dt (bE (by intro x e;cases e)) S ?_;clear S;intro h br S n_br e_br;simp only [ag]at S
 simp only [BS,LB,cls,Nat.reduceLT,Nat.reduceEqDiff,Nat.reduceAdd,Nat.reducePow,Nat.reduceDiv,Nat.reduceMod,Nat.reduceLeDiff]
 refine ae (bL (by exact yP) (by exact yQ) (by decide) (by rfl)) S ?_;clear S;intro h bs S n_bs;simp only [LC,aU,bI,ag,Nat.reduceMul,Nat.reduceAdd,yr,yo,yy,yz]at S
 simp only [BS,LB,Nat.reduceLT,Nat.reduceEqDiff]
 refine ar (cH S.ok (hn.gr (S0.rebase S).gr)) ?_;intro h g;replace S:=S.call g;clear g
 simp only [BS,LB,Nat.reduceLT,Nat.reduceEqDiff]
 have kl:=fun {c} (hc:c∈_)=>S.key_lt (b:=c) hc
 have kn:=S.fr.n
 refine step_ret (repI_ok S.ok (x:= -1) (.inr ⟨bs,0,none,1,rfl,yD _,S.lds (b:=bs) (o:=0) (n:=1*1) m0 (lbt rfl)⟩) n1 (by omega)) ?_;intro v h ⟨g,bb,eb,nb',Rb⟩;replace S:=S.call g;clear g
 subst eb
 replace S:=S.drop1
 replace S:=S.push (b:=bb) (o:=.row _ 1) (.inl (xX kn nb')) Rb (fun hm=>by have:=kl (yf _ hm);omega)
 simp only [BS,LB,Nat.reduceLT,Nat.reduceEqDiff,Tryz.FFs696]
 refine az (aB S (i:=1) rfl ?_ ?_ ?_ ono) ?_
 . exact(by simp only [Tryz.FFs696])
 . exact(by exact aW)
 . exact ye (lbt rfl)
 clear S;rintro h ⟨S,mo⟩;clear mo;simp only [LC,ag,lay,yg,yh,Nat.reduceAdd]at S
 simp only [BS,LB,Nat.reduceLT,Nat.reduceEqDiff,Tryz.FFs696]
 refine az (aB S (i:=1) rfl ?_ ?_ ?_ ono) ?_
 . exact(by simp only [Tryz.FFs696])
 . exact(by exact ja)
 . exact ye (lbt rfl)
 clear S;rintro h ⟨S,mo⟩;clear mo;simp only [LC,ag,lay,yg,yh,Nat.reduceAdd]at S
 simp only [BS,LB,Nat.reduceLT,Nat.reduceEqDiff,Tryz.FFs696]
 refine az (aB S (i:=1) rfl ?_ ?_ ?_ ono) ?_
 . exact(by simp only [Tryz.FFs696])
 . exact(by exact ja)
 . exact ye (lbt rfl)
 clear S;rintro h ⟨S,mo⟩;clear mo;simp only [LC,ag,lay,yg,yh,Nat.reduceAdd]at S
 simp only [BS,LB,ab,Nat.reduceLT,Nat.reduceEqDiff]
 have e1:aU [Value.int .i64 0] ((γ.nodes:Int)).toNat=labC γ.nodes zS.L:=by rw [m9];rfl
 have e2:aU [Value.bool false] ((γ.nodes:Int)).toNat=clC γ.nodes zS.O:=by
  rw [m9];unfold clC zS
  exact List.map_congr_left fun v _=>by simp
 have e3:yn γ.nodes (Value.int .i64 (-1))=byC γ.nodes zS.P:=by
  show _=(yb γ.nodes).map fun _=>Value.int .i64 (-1)
  rw [List.map_const',yq]
 rw [e1,e2,e3]at S
 have ap:=S.apart
 have kl:=fun {c} hc=>S.key_own (b:=c) hc
 have n0:=S0.fr.n
 have hK: ∀c∈keys (srL br bl bb bk γ.nodes (ptrTo bp) (ptrTo ph) (.func (.func 136) #[] #[ptrTo ba]) (.func (.func 137) #[] #[ptrTo ba]) (.slice none 0 0) zS) (srG (.slice none 0 0) zS),h_H.n<=c:=fun c hc=>by
  have:c=bb\/c=br\/c=bk\/c=bl:=by simp [srL,srG,keys,dR]at hc;omega
  rcases kl (c:=c) (by simp [keys];omega)with h|h
  . exact h
  . simp [keys]at h
 refine⟨br,ba,hq,_,rfl,gq,(S0.rebase S).gr,l2,l3,⟨bl,bb,bk,ph,F,.slice none 0 0,rfl,fun q hq=>?_,.inl ⟨rfl,rfl⟩,?_,H.mo S.fr (fun c _ h=>by simp [keys]at h),fun c hc hm=>?_⟩,fun c hc=>?_⟩
 . simp only [srL,List.mem_cons,List.not_mem_nil,or_false]at hq
   rcases hq with rfl|rfl|rfl|rfl
   . exact S.row m1
   . exact S.row m3
   . exact S.row m0
   . exact S.row m2
 . simp [srL,srG,keys,dR]at ap⊢
   exact⟨by omega,by omega,by omega,.nil⟩
 . have:=lF c hc
   have:=hK c hm
   omega
 . rcases List.mem_append.1 hc with hc|hc
   . exact xX n0 (hK c hc)
   . exact xX k0 (hF c hc)
theorem fitsB_ok{h0:Hp}(ok:h0.t.Sized h0.n){v:Value}{xs:List Bool}(hv:aA h0 1 encB v xs){n:Nat}(hl:xs=[]\/xs.length=n):bC xW 93 [v,.int .i64 n] h0 (.bool true):=by
 have S:=Si ok
 by_cases c0:(xs.length:Int)=0
 . refine ac (n:=14) (rs:=[.tmp 4]) rfl Tryz.e93 rfl rfl rfl (lbt rfl) ?_
   simp only [BS,LB,ab,Nat.reduceLT,Nat.reduceEqDiff,Tryz.FFs693,hv.lenq,c0]
   exact S.gr
 . have c1:(xs.length:Int)=(n:Int):=by
    rcases hl with rfl|h
    . simp at c0
    . omega
   rw [c1]at c0
   refine ac (n:=14) (rs:=[.tmp 4]) rfl Tryz.e93 rfl rfl rfl (lbt rfl) ?_
   simp only [BS,LB,ab,Nat.reduceLT,Nat.reduceEqDiff,Tryz.FFs693,hv.lenq,c0,c1]
   exact S.gr
theorem fitsI_ok{h0:Hp}(ok:h0.t.Sized h0.n){v:Value}{xs:List Int}(hv:aA h0 1 (encI .i64) v xs){n:Nat}(hl:xs=[]\/xs.length=n):bC xW 95 [v,.int .i64 n] h0 (.bool true):=by
 have S:=Si ok
 by_cases c0:(xs.length:Int)=0
 . refine ac (n:=14) (rs:=[.tmp 4]) rfl Tryz.e95 rfl rfl rfl (lbt rfl) ?_
   simp only [BS,LB,ab,Nat.reduceLT,Nat.reduceEqDiff,Tryz.FFs695,hv.lenq,c0]
   exact S.gr
 . have c1:(xs.length:Int)=(n:Int):=by
    rcases hl with rfl|h
    . simp at c0
    . omega
   rw [c1]at c0
   refine ac (n:=14) (rs:=[.tmp 4]) rfl Tryz.e95 rfl rfl rfl (lbt rfl) ?_
   simp only [BS,LB,ab,Nat.reduceLT,Nat.reduceEqDiff,Tryz.FFs695,hv.lenq,c0,c1]
   exact S.gr
theorem xL{h0:Hp}(ok:h0.t.Sized h0.n){p:Value}{γ:Gra}{nb:Nat}(c:bT h0 nb p γ):bC xW 94 [p] h0 (.int .i64 γ.arcs.length):=by
 have S:=Si ok
 obtain⟨b,vx,vy,va,vo,vi,rfl,r,ga,_⟩:=c.ex
 have l0:=r.load1 (o:=3) rfl
 refine ac (n:=11) (rs:=[.tmp 2]) rfl Tryz.e94 rfl rfl rfl (lbt rfl) ?_
 simp only [BS,LB,ab,Nat.reduceLT,Nat.reduceEqDiff,Tryz.FFs694,l0,ga.A.lenq]
 exact S.gr
theorem ry{h0:Hp}(ok:h0.t.Sized h0.n){bp b2:Nat}{γ:Gra}{nb:Nat}(c:bT h0 nb (ptrTo bp) γ)(l:h0.load b2 0 1=some [ptrTo bp]){v:Nat}(hv:v<γ.nodes):bC xW 92 [.int .i64 (v:Nat),ptrTo b2] h0 (.bool true):=by
 have S:=Si ok
 have c1:(0:Int)<=(v:Int):=by omega
 refine ac (n:=12) (rs:=[.tmp 3]) rfl Tryz.e92 rfl rfl rfl (lbt rfl) ?_
 simp only [BS,LB,Nat.reduceLT,Nat.reduceEqDiff,Tryz.FFs692,l,c1]
 refine ar (cH S.ok (c.gr S.gr)) ?_;intro h g;replace S:=S.call g;clear g
 simp only [BS,LB,ab,Nat.reduceLT,Nat.reduceEqDiff,aI,hv]
 exact S.gr
theorem xf{h0:Hp}(ok:h0.t.Sized h0.n){γ:Gra}(hγ:Good γ){nb bp:Nat}(hn:bT h0 nb (ptrTo bp) γ){s to:Nat}(hs:s<γ.nodes)(hto:to<γ.nodes){vAl vPi:Value}{als:List Bool}{pis:List Int}(hA:aA h0 1 encB vAl als)(hAl:als=[]\/als.length=γ.arcs.length)(hP:aA h0 1 (encI .i64) vPi pis)(hPl:pis=[]\/pis.length=γ.nodes):
 Ret xW 43 [ptrTo bp,.agg ⟨[.int .i64 (s:Nat),.int .i64 (to:Nat),vAl,vPi]⟩] h0 fun r h'=>Gr h0 h'/\ ∃v fd,r=.tuple #[v,.int .i64 0]/\FdAt h' h0.n v fd/\((s=to/\fd=⟨0,[],[]⟩)\/(s≠to/\Ends γ.arcs (alF als) (piF pis) to (da (piF pis) s) fd)):=by
 have S:=Si ok
 have fA:=hA.fl
 have fP:=hP.fl
 refine ac (n:=57) (rs:=[.cell 4 99,.tmp 5]) rfl Tryz.e43 rfl rfl rfl (lbt rfl) ?_
 simp only [BS,Nat.reduceLT]
 refine ae (co (by exact fb)) S ?_;clear S;intro h b2 S n_b2
 simp only [BS,Nat.reduceLT,Nat.reduceEqDiff,if_false]
 refine ae (bE (by intro x e;cases e)) S ?_;clear S;intro h b3 S n_b3;simp only [ag]at S
 simp only [BS,Tryz.FFs643]
 refine ae aw S ?_;clear S;intro h b4 S n_b4
 simp only [BS,LB,Nat.reduceLT,Nat.reduceEqDiff,Tryz.FFs643,S.ld (b:=b2) (o:=0) m2 rfl]
 refine aC (aH rfl) (q:=0) (ps:=[(22,24),(14,16)]) (by kernel_rfl) ?_
 simp only [BS,LB,cls,Nat.reduceLT,Nat.reduceEqDiff,Nat.reduceAdd,Nat.reducePow,Nat.reduceDiv,Nat.reduceMod,Nat.reduceLeDiff,Tryz.FFs643,S.ld (b:=b2) (o:=0) m2 rfl,S.ld (b:=b3) (o:=0) m1 rfl]
 have p1:=(S.row (b:=b2) m2).lt S.ok
 have q1:=(S.row (b:=b3) m1).lt S.ok
 refine cE (ry S.ok (hn.gr S.gr) (S.ld (b:=b2) (o:=0) m2 rfl) hs) ?_;intro h g;have u1:=ay g p1;have v1:=ay g q1;replace S:=S.call g;clear g
 simp only [BS,LB,cls,Nat.reduceLT,Nat.reduceEqDiff,Nat.reduceAdd,Nat.reducePow,Nat.reduceDiv,Nat.reduceMod,Nat.reduceLeDiff,Tryz.FFs643,S.ld (b:=b2) (o:=0) m2 rfl,S.ld (b:=b3) (o:=1) m1 rfl]
 have p2:=(S.row (b:=b2) m2).lt S.ok
 have q2:=(S.row (b:=b3) m1).lt S.ok
 refine cE (ry S.ok (hn.gr S.gr) (S.ld (b:=b2) (o:=0) m2 rfl) hto) ?_;intro h g;have u2:=ay g p2;have v2:=ay g q2;replace S:=S.call g;clear g
 simp only [BS,LB,cls,Nat.reduceLT,Nat.reduceEqDiff,Nat.reduceAdd,Nat.reducePow,Nat.reduceDiv,Nat.reduceMod,Nat.reduceLeDiff,Tryz.FFs643,S.ld (b:=b2) (o:=0) m2 rfl,S.ld (b:=b3) (o:=2) m1 rfl]
 have p3:=(S.row (b:=b2) m2).lt S.ok
 have q3:=(S.row (b:=b3) m1).lt S.ok
 refine cE (xL S.ok (hn.gr S.gr)) ?_;intro h g;have u3:=ay g p3;have v3:=ay g q3;replace S:=S.call g;clear g
 simp only [BS,LB,cls,Nat.reduceLT,Nat.reduceEqDiff,Nat.reduceAdd,Nat.reducePow,Nat.reduceDiv,Nat.reduceMod,Nat.reduceLeDiff]
 have p4:=(S.row (b:=b2) m2).lt S.ok
 have q4:=(S.row (b:=b3) m1).lt S.ok
 refine cE (fitsB_ok S.ok (hA.gr S.gr) hAl) ?_;intro h g;have u4:=ay g p4;have v4:=ay g q4;replace S:=S.call g;clear g
 simp only [BS,LB,cls,Nat.reduceLT,Nat.reduceEqDiff,Nat.reduceAdd,Nat.reducePow,Nat.reduceDiv,Nat.reduceMod,Nat.reduceLeDiff,Tryz.FFs643,S.ld (b:=b2) (o:=0) m2 rfl,S.ld (b:=b3) (o:=3) m1 rfl]
 have p5:=(S.row (b:=b2) m2).lt S.ok
 have q5:=(S.row (b:=b3) m1).lt S.ok
 refine cE (cH S.ok (hn.gr S.gr)) ?_;intro h g;have u5:=ay g p5;have v5:=ay g q5;replace S:=S.call g;clear g
 simp only [BS,LB,cls,Nat.reduceLT,Nat.reduceEqDiff,Nat.reduceAdd,Nat.reducePow,Nat.reduceDiv,Nat.reduceMod,Nat.reduceLeDiff]
 have p6:=(S.row (b:=b2) m2).lt S.ok
 have q6:=(S.row (b:=b3) m1).lt S.ok
 refine cE (fitsI_ok S.ok (hP.gr S.gr) hPl) ?_;intro h g;have u6:=ay g p6;have v6:=ay g q6;replace S:=S.call g;clear g
 simp only [BS,LB,cls,Nat.reduceLT,Nat.reduceEqDiff,Nat.reduceAdd,Nat.reducePow,Nat.reduceDiv,Nat.reduceMod,Nat.reduceLeDiff,Tryz.FFs643]
 refine⟨by simp only [aX,bu,aS,bz,aT,ne_eq,not_false_eq_true,bF,bJ,bA,aY,bK,cD,aK,Nat.reduceLT,Nat.reduceEqDiff,reduceIte,yi,ah,aN v3,aN v5],?_⟩
 clear p1 p2 p3 p4 p5 p6 q1 q2 q3 q4 q5 q6 u1 u2 u3 u4 u5 u6 v1 v2 v3 v4 v5 v6
 by_cases hst:s=to
 . subst hst
   simp only [BS,LB,Nat.reduceLT,Nat.reduceEqDiff,Tryz.FFs643,S.ld (b:=b3) (o:=0) m1 rfl,S.ld (b:=b3) (o:=1) m1 rfl]
   refine az (S.store (i:=0) rfl yG (by intro x e;cases e) rfl rfl (lbt rfl) ono) ?_
   clear S;rintro h3 ⟨S,mo⟩
   simp only [LC,ag,lay,yg,yh,Nat.reduceAdd]at S
   simp only [BS,ab]
   refine(cF (by decide) (by simp only [aK,ah,Nat.reduceEqDiff,reduceIte];exact cm yZ yG (S.lds (b:=b4) (o:=0) (n:=3) m0 (lbt rfl)))).2 ?_
   refine(jb (by decide)).2 (dr.2 ?_)
   exact⟨S.gr,_,⟨0,[],[]⟩,rfl,⟨_,_,rfl,.inl ⟨rfl,rfl⟩,.inl ⟨rfl,rfl⟩,fun c hc=>hc.elim,fun c hc=>hc.elim⟩,.inl rfl⟩
 . have hst': ¬((s:Int)=(to:Int)):=by omega
   simp only [BS,LB,Nat.reduceLT,Nat.reduceEqDiff,Tryz.FFs643,hst',S.ld (b:=b3) (o:=0) m1 rfl,S.ld (b:=b3) (o:=1) m1 rfl]
   refine aC (aH rfl) (q:=0) (ps:=[(2,6),(2,4)]) (by kernel_rfl) ?_
   simp only [BS,LB,cls,Nat.reduceLT,Nat.reduceEqDiff,Nat.reduceAdd,Nat.reducePow,Nat.reduceDiv,Nat.reduceMod,Nat.reduceLeDiff,Tryz.FFs643,yt,yT,List.take_zero,S.ld (b:=b2) (o:=0) m2 rfl,S.lds (b:=b3) (o:=0) (n:=4) m1 (lbt rfl)]
   have hnS:=hn.gr S.gr
   have kS:=S.fr.n
   have p3:=(S.row (b:=b3) m1).lt S.ok
   refine dg (sstart_ok S.ok hγ hnS fA fP) ?_
   rintro r h5 ⟨br,ba,hq,B,rfl,g1,g2,l2,l3,R,hB⟩
   have u1:=ay (g1.trans g2) p3
   have Aq:=hA.gr (S.gr.trans g1)
   have Pq:=hP.gr (S.gr.trans g1)
   have Sq:=S.call g1
   have b4q:=(Sq.row (b:=b4) m0).lt Sq.ok
   replace S:=S.call (g1.trans g2)
   simp only [BS,LB,cls,Nat.reduceLT,Nat.reduceEqDiff,Nat.reduceAdd,Nat.reducePow,Nat.reduceDiv,Nat.reduceMod,Nat.reduceLeDiff,Tryz.FFs643,S.ld (b:=b3) (o:=0) m1 rfl,S.ld (b:=b3) (o:=1) m1 rfl]
   have kq:=g1.n
   have hnq:=hnS.gr g1
   refine dg (srun_ok g1.ok g2 hγ hnq R hB (al_ok l2 Aq hAl) (pi_ok l3 Pq hPl) (fun v _=>piF_lo pis v) hs hto) ?_
   rintro rv h6 ⟨g6,fd,he,vA,vE,rfl,G1,G2,d1,d2⟩
   replace S:=Sq.call g6
   have f1:Fl vA:=G1.fl
   have f2:Fl vE:=G2.fl
   simp only [BS,LB,cls,Nat.reduceLT,Nat.reduceEqDiff,Nat.reduceAdd,Nat.reducePow,Nat.reduceDiv,Nat.reduceMod,Nat.reduceLeDiff]
   refine c5 (S.store (i:=0) rfl yG (by intro x e;cases e) rfl (by simp only [ag,yx,yA,f1.2.1,f2.2.1,yi];rfl) (lbt rfl) ono) ?_
   clear S;rintro h7 ⟨S,mo⟩
   simp only [LC,ag,lay,yg,yh,Nat.reduceAdd]at S
   simp only [BS,LB,cls,ab,Nat.reduceEqDiff,Nat.reduceAdd,Nat.reducePow,Nat.reduceDiv,Nat.reduceMod,Nat.reduceLeDiff]
   refine⟨by simp only [aX,bu,aS,bz,aT,ne_eq,not_false_eq_true,bF,bJ,bA,aY,bK,cD,aK,Nat.reduceLT,Nat.reduceEqDiff,reduceIte,yi,ah,aP u1],?_⟩
   refine(cF (by decide) (by simp only [aK,ah,Nat.reduceEqDiff,reduceIte];exact cm yZ yG (S.lds (b:=b4) (o:=0) (n:=3) m0 (lbt rfl)))).2 ?_
   refine(jb (by decide)).2 (dr.2 ?_)
   have keep: ∀{p:GL},eQ h6 p->(∀c,av p.1 c->hq.n<=c)->eQ h7 p:=fun {p} G hc=>G.of_get fun c hk=>mo.get c (G.lt g6.ok hk) fun e=>by
    have:=hc c (by
     rcases G with⟨e1,_⟩|⟨b',n',e1,_⟩
     . obtain⟨v,k,vs⟩:=p
       simp only []at e1
       subst e1
       cases hk
     . obtain⟨v,k,vs⟩:=p
       simp only []at e1
       subst e1
       cases hk
       rfl)
    omega
   exact⟨S.gr,_,fd,rfl,⟨vA,vE,rfl,keep G1 (fun c hc=>(d1 c hc).1),keep G2 d2,fun c hc=>⟨xX kS (xX kq (d1 c hc).1),(d1 c hc).2⟩,fun c hc=>xX kS (xX kq (d2 c hc))⟩,.inr ⟨hst,he⟩⟩
open Tryz in
def Tryz.FFd1174:=aj a1<|aj s1<|aj z1<|aj n1<|aj u2<|aj a2<|aj s2<|aj z2<|i2
def wy(x:Int):Int:=min (max x 0) 72057594037927936
theorem wh{h0:Hp}(ok:h0.t.Sized h0.n){b1 b2:Nat}{x:Int}(e1:h0.load b1 0 1=some [.int .i64 0])(e2:h0.load b2 0 1=some [.int .i64 72057594037927936]):bC xW 174 [.int .i64 x,ptrTo b1,ptrTo b2] h0 (.int .i64 (wy x)):=by
 have S:=Si ok
 refine ac (n:=10) (rs:=[.tmp 4]) rfl Tryz.e174 rfl rfl rfl (lbt rfl) ?_
 simp only [BS,LB,ab,Nat.reduceLT,Nat.reduceEqDiff,Tryz.FFd1174,e1,e2]
 exact⟨rfl,S.gr⟩
theorem xF{h0:Hp}(ok:h0.t.Sized h0.n):Ret xW 167 [.int .i64 0,.int .i64 72057594037927936] h0 fun v h=>Gr h0 h/\ ∃b1 b2,v=.func (.func 174) #[] #[ptrTo b1,ptrTo b2]/\h.load b1 0 1=some [.int .i64 0]/\h.load b2 0 1=some [.int .i64 72057594037927936]:=by
 have S:=Si ok
 refine ac (n:=6) (rs:=[.tmp 4]) rfl Tryz.e167 rfl rfl rfl (lbt rfl) ?_
 simp only [BS,Nat.reduceLT]
 refine ae (bE (by intro x e;cases e)) S ?_;clear S;intro h b1 S n_b1;simp only [ag]at S
 simp only [BS,Nat.reduceLT,Nat.reduceEqDiff,if_false]
 refine ae (bE (by intro x e;cases e)) S ?_;clear S;intro h b2 S n_b2;simp only [ag]at S
 simp only [BS,LB,ab,Nat.reduceLT,Nat.reduceEqDiff]
 exact⟨S.gr,b1,b2,rfl,S.ld m1 rfl,S.ld m0 rfl⟩
theorem qS{h0:Hp}(ok:h0.t.Sized h0.n){x:Int}:bC xW 145 [.int .i64 x] h0 (.int .i64 (wy x)):=by
 have S:=Si ok
 refine ac (n:=6) (rs:=[.tmp 2]) rfl Tryz.e145 rfl rfl rfl (lbt rfl) ?_
 simp only [BS,LB]
 refine step_ret (xF S.ok) ?_;intro v h ⟨g,b1,b2,e,e1,e2⟩;replace S:=S.call g;clear g
 subst e
 simp only [BS,LB,Nat.reduceLT,Nat.reduceEqDiff]
 refine ar (wh S.ok e1 e2) ?_;intro h g;replace S:=S.call g;clear g
 simp only [BS,LB,ab,Nat.reduceLT,Nat.reduceEqDiff]
 exact S.gr
theorem sD{h0:Hp}(ok:h0.t.Sized h0.n){x:Int}:bC xW 146 [.int .i64 x] h0 (.bool (decide (wy x<72057594037927936))):=by
 have S:=Si ok
 refine ac (n:=6) (rs:=[.tmp 2]) rfl Tryz.e146 rfl rfl rfl (lbt rfl) ?_
 simp only [BS,LB,Nat.reduceLT,Nat.reduceEqDiff]
 refine ar (qS S.ok) ?_;intro h g;replace S:=S.call g;clear g
 simp only [BS,LB,ab,Nat.reduceLT,Nat.reduceEqDiff]
 exact S.gr
theorem wy_bd(x:Int):0<=wy x/\wy x<=72057594037927936:=by unfold wy;omega
theorem wy_id{x:Int}(h0:0<=x)(h1:x<=72057594037927936):wy x=x:=by unfold wy;omega
def j9(v t:Int):Int:=if wy t<72057594037927936 then(if wy v<72057594037927936 then wy (wy v-wy t)else 72057594037927936)else 0
theorem low_ok{h0:Hp}(ok:h0.t.Sized h0.n){v t:Int}:bC xW 104 [.int .i64 v,.int .i64 t] h0 (.int .i64 (j9 v t)):=by
 have S:=Si ok
 have b1:=wy_bd v
 have b2:=wy_bd t
 have e1:wy (wy v)=wy v:=wy_id b1.1 b1.2
 have e2:wy (wy t)=wy t:=wy_id b2.1 b2.2
 have w:au .i64 (wy v-wy t)=wy v-wy t:=by rw [wrap64]<;>omega
 refine ac (n:=21) (rs:=[.tmp 4]) rfl Tryz.e104 rfl rfl rfl (lbt rfl) ?_
 simp only [BS,LB,Nat.reduceLT,Nat.reduceEqDiff]
 refine ar (qS S.ok) ?_;intro h g;replace S:=S.call g;clear g
 simp only [BS,LB,Nat.reduceLT,Nat.reduceEqDiff]
 refine ar (qS S.ok) ?_;intro h g;replace S:=S.call g;clear g
 simp only [BS,LB,Nat.reduceLT,Nat.reduceEqDiff]
 refine ar (sD S.ok) ?_;intro h g;replace S:=S.call g;clear g
 unfold j9
 by_cases h1:wy t<72057594037927936
 . simp only [BS,LB,Nat.reduceLT,Nat.reduceEqDiff,e2,h1]
   refine ar (sD S.ok) ?_;intro h g;replace S:=S.call g;clear g
   by_cases h2:wy v<72057594037927936
   . simp only [BS,LB,Nat.reduceLT,Nat.reduceEqDiff,e1,h2,w]
     refine ar (qS S.ok) ?_;intro h g;replace S:=S.call g;clear g
     simp only [BS,LB,ab,Nat.reduceLT,Nat.reduceEqDiff]
     exact S.gr
   . simp only [BS,LB,ab,Nat.reduceLT,Nat.reduceEqDiff,e1,h2]
     exact S.gr
 . simp only [BS,LB,ab,Nat.reduceLT,Nat.reduceEqDiff,e2,h1]
   exact S.gr
theorem lift_ok{h0:Hp}(ok:h0.t.Sized h0.n){v t:Int}:bC xW 106 [.int .i64 v,.int .i64 t] h0 (.int .i64 (j9 t v)):=by
 have S:=Si ok
 refine ac (n:=8) (rs:=[.tmp 4]) rfl Tryz.e106 rfl rfl rfl (lbt rfl) ?_
 simp only [BS,LB,Nat.reduceLT,Nat.reduceEqDiff]
 refine ar (low_ok S.ok) ?_;intro h g;replace S:=S.call g;clear g
 simp only [BS,LB,ab,Nat.reduceLT,Nat.reduceEqDiff]
 exact S.gr
end Go.Ab
end
section
namespace Go.Ab
structure YldP(E:Env)(lb:Nat)(J:Nat->Hp->List Nat->Prop)(n:Nat)(P:Nat->Hp->List Nat->List Value->Prop):Prop where
 lt: ∀i h F,J i h F->h.t.Sized h.n/\ ∀b∈F,b<h.n
 gr: ∀i h F h',J i h F->Gr h h'->J i h' F
 round: ∀i x h F,i<n->P i h F x->J i h F->jt E lb x h fun o h'=>o=.ret (.bool true)/\ ∃F',J (i+1) h' F'/\Mo (· ∈F) h h'/\ ∀b∈F',b∈F\/h.n<=b
def IterP(E:Env)(g:FuncId)(post:List Value)(h0:Hp)(D:Nat->Prop)(n:Nat)(P:Nat->Hp->List Nat->List Value->Prop):Prop:=
 ∀lb J,YldP E lb J n P-> ∀h F,ItS h0 D h F->J 0 h F->eN E g (.func (.yield lb) #[] #[]::post) none h fun o rc h'=>rc=none/\ ∃u F',o=.ret u/\J n h' F'
theorem ww{E:Env}{cx:Cx}{o:Oper}{l:Loc}{K:Ex->Loc->Hp->Prop}{h0 h:Hp}{D:Nat->Prop}{lb i n:Nat}{J:Nat->Hp->List Nat->Prop}{P:Nat->Hp->List Nat->List Value->Prop}{x:List Value}{F:List Nat}
 (Y:YldP E lb J n P) (s:ItS h0 D h F) (hj:J i h F) (hi:i<n) (hx:P i h F x)
 (k1: ∀h' F',J (i+1) h' F'->ItS h0 D h' F'->Mo (· ∈F) h h'->(∀b∈F',b∈F\/h.n<=b)->K .normal (l.put o.dst (.bool true)) h'):eh E cx o l K (some (.yield lb x,h)):=by
 refine rK (Y.round i x h F hi hx hj) ?_
 rintro q h' ⟨rfl,F',a,b,c⟩
 exact k1 h' F' a (s.mo b c (Y.lt _ _ _ a).2) b c
def encV(w:Value):List Value:=[w]
theorem vr(w:Value):(encV w).length=1:=rfl
theorem flat_encV(l:List Value):l.flatMap encV=l:=by
 induction l with
 |nil=>rfl
 |cons x l ih=>rw [yN,ih];rfl
def fF(h:Hp)(m:Nat)(v:Value)(n:Nat)(R:Nat->List Int):Prop:=
 ∃ws:List Value,aA h 1 encV v ws/\ws.length=n/\(∀c,av v c->m<=c)/\ ∀i w,ws[i]? =some w->aA h 1 (encI .i64) w (R i)/\ ∀c,av w c->m<=c
theorem fF.mo{M:Nat->Prop}{h h':Hp}{m n:Nat}{v:Value}{R:Nat->List Int}(r:fF h m v n R)(g:Mo M h h')(hm: ∀b,M b->b<m):fF h' m v n R:=by
 obtain⟨ws,a,b,c,d⟩:=r
 exact⟨ws,a.mo g (fun x hx hM=>by have:=c x hx;have:=hm x hM;omega),b,c,fun i w hw=>⟨(d i w hw).1.mo g (fun x hx hM=>by have:=(d i w hw).2 x hx;have:=hm x hM;omega),(d i w hw).2⟩⟩
theorem fF.gr{h h':Hp}{m n:Nat}{v:Value}{R:Nat->List Int}(r:fF h m v n R)(g:Gr h h'):fF h' m v n R:=r.mo (M:=NoM) g.fr (fun _ h=>h.elim)
theorem fF.low{h:Hp}{m m' n:Nat}{v:Value}{R:Nat->List Int}(r:fF h m v n R)(hm:m'<=m):fF h m' v n R:=by
 obtain⟨ws,a,b,c,d⟩:=r
 exact⟨ws,a,b,fun x hx=>xX hm (c x hx),fun i w hw=>⟨(d i w hw).1,fun x hx=>xX hm ((d i w hw).2 x hx)⟩⟩
theorem fF.row{h:Hp}{m n:Nat}{v:Value}{R:Nat->List Int}(r:fF h m v n R){i:Nat}(hi:i<n): ∃w,(∃c o,idxS (some 1) v (.int .i64 (i:Nat))=some (.pointer (some ⟨c,o,none⟩))/\h.load c o 1=some [w])/\aA h 1 (encI .i64) w (R i)/\ ∀c,av w c->m<=c:=by
 obtain⟨ws,a,b,c,d⟩:=r
 obtain⟨q,o,e1,e2⟩:=a.ix (kd:=.i64) vr (i:=i) (by omega)
 have hw:ws[i]? =some ws[i]:=xZ (by omega)
 exact⟨ws[i],⟨q,o,e1,e2⟩,(d i _ hw).1,(d i _ hw).2⟩
theorem flat_nat(l:List Nat):l.flatMap bW=(l.map fun(x:Nat)=>(x:Int)).flatMap (encI .i64):=by
 induction l with
 |nil=>rfl
 |cons x l ih=>rw [yN,List.map_cons,yN,ih];rfl
theorem sl_nat{h:Hp}{v:Value}{l:List Nat}(s:aA h 1 bW v l):aA h 1 (encI .i64) v (l.map fun(x:Nat)=>(x:Int)):=by
 rcases s with⟨rfl,rfl⟩|⟨b,o,s,c,rfl,h2,h3⟩
 . exact .inl ⟨rfl,rfl⟩
 . refine .inr ⟨b,o,s,c,by rw [yj],by rw [yj];exact h2,?_⟩
   rw [yj,h3,flat_nat]
def eY(N:Nat)(l:List Int):Prop:=l.length<=16/\ ∀i,i<l.length->0<=l.getD i 0/\l.getD i 0<N/\l.getD i 0∉l.take i
theorem eY.push{N:Nat}{l:List Int}(h:eY N l)(hl:l.length<16){x:Int}(h0:0<=x)(hN:x<N)(hx:x∉l):eY N (l++[x]):=by
 refine⟨by simp;omega,fun i hi=>?_⟩
 simp at hi
 by_cases e:i=l.length
 . subst e
   have e1:(l++[x]).getD l.length 0=x:=by simp [xY]
   rw [e1,List.take_left']
   exact⟨h0,hN,hx⟩
   rfl
 . have hil:i<l.length:=by omega
   have e1:(l++[x]).getD i 0=l.getD i 0:=by simp [xY,List.getElem?_append_left hil]
   rw [e1,List.take_append_of_le_length (by omega)]
   exact h.2 i hil
theorem uU(N:Nat):eY N []:=⟨by simp,fun i hi=>by simp at hi⟩
structure TabAt(h:Hp)(m:Nat)(p:Value)(N:Nat)(marks:List Int)(R Q:Nat->List Int):Prop where
 ex: ∃b vM vT vF,p=ptrTo b/\Row h b [.int .i64 N,vM,vT,vF] 1/\aA h 1 (encI .i64) vM marks/\fF h m vT marks.length R/\fF h m vF marks.length Q/\m<=b/\ ∀c,av vM c->m<=c
theorem TabAt.mo{M:Nat->Prop}{h h':Hp}{m N:Nat}{p:Value}{marks:List Int}{R Q:Nat->List Int}(t:TabAt h m p N marks R Q)(g:Mo M h h')(hm: ∀b,M b->b<m):TabAt h' m p N marks R Q:=by
 obtain⟨b,vM,vT,vF,e,h1,h2,h3,h4,h5,h6⟩:=t.ex
 exact⟨b,vM,vT,vF,e,g.has (o:=.row _ 1) h1 (fun h=>by have:=hm _ h;omega),h2.mo g (fun x hx hM=>by have:=h6 x hx;have:=hm x hM;omega),h3.mo g hm,h4.mo g hm,h5,h6⟩
theorem TabAt.gr{h h':Hp}{m N:Nat}{p:Value}{marks:List Int}{R Q:Nat->List Int}(t:TabAt h m p N marks R Q)(g:Gr h h'):TabAt h' m p N marks R Q:=t.mo (M:=NoM) g.fr (fun _ h=>h.elim)
theorem fF.lenq{h h':Hp}{m n:Nat}{v:Value}{R:Nat->List Int}{e:TypeId}(r:fF h' m v n R):lenQ (some (.slice e)) h v=some (.val (.int .i64 n),h):=by
 have⟨ws,a,b,_⟩:=r
 rw [<-b];exact a.lenq
end Go.Ab

end

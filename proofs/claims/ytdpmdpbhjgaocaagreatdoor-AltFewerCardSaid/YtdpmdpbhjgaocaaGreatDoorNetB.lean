/- Nets, cells, flags: what the functions do (part 2). -/
import Derived.Test.YtdpmdpbhjgaocaaGreatDoorNetA
open List renaming getD_eq_getElem?_getD->xW,replicate->xY,range->ya,nodup_append->yc,length_set->yd,mem_map_of_mem->ye,map_append->yg,length_append->yh,map_cons->yi,mem_of_getElem?->yj,append_nil->yo,getElem?_set->yp,take->yq,drop->yr,getElem?_replicate->yt,ext_getElem?->yx,getElem?_append->yy,getElem?_eq_getElem->yA,length_take->yB,mem_cons->yD,nodup_cons->yE,getElem?_append_right->yH,take_succ_cons->yI,getElem?_append_left->yJ,drop_zero->yK,getElem_mem->yM,not_mem_nil->yN,getElem?_eq_none->yP,length_replicate->yR,length_nil->yU,take_append_of_le_length->yW,take_zero->yX,filterMap_nil->y6,getElem?_map->y7,drop_eq_getElem_cons->y8,length_cons->y9,getElem?_take_of_lt->zb,mem_append->zg,length_singleton->zk,flatMap_eq_foldl->zl,replicate_succ->zt,getElem?_range->zu,take_replicate->zw,replicate_zero->zx,map_nil->zz
open Go.Ab.Tryz renaming abEnv->xX,u40->yw,u153->yG,e3E->yL,u3->yQ,s59->za,u246->zh,s3->zj,e255E->zo,u25->zp,s2->zD
open Nat renaming ble_eq_true_of_le->xZ,lt_of_succ_le->yl,mul_one->ym,le_trans->yn,le_refl->yu,zero_add->yz,beq->yC,zero_mul->yF,eq_of_beq_eq_true->yO,sub_self->yS,beq_refl->yT,ble->yY,one_mul->yZ,lt_of_lt_of_le->y5,le_total->ze,add_sub_cancel_left->zf,blt_eq->zn,le_of_lt->zC,zero_le->zF
open Int renaming cast_ofNat_Int->yb,toNat_natCast->yk,ofNat_eq_natCast->zm,ofNat->zy
open Prod renaming fst->yf
open Option renaming isSome_none->yv,map_some->yV,getD_none->zd,map_none->zi
open Bool renaming and_true->zq
set_option maxHeartbeats 4000000
set_option linter.defProp false
set_option linter.unusedVariables false
set_option linter.unusedSimpArgs false
section
namespace Go.Ab
open Go.Proofs
set_option maxRecDepth 10000
open Tryz in
def Tryz.FFt1079:=aj a1<|aj s1<|aj z1<|aj n1<|aj u2<|aj a2<|aj s2<|aj z2<|aj i2<|aj u3<|aj a3<|aj s3<|aj z3<|aj i3<|aj a59<|aj s59<|aj z59<|aj i59<|aj n59<|aj p59<|aj ff59<|d59
open Tryz in
def Tryz.FFt1080:=aj a1<|aj s1<|aj z1<|aj n1<|aj u2<|aj a2<|aj s2<|aj z2<|aj i2<|aj u3<|aj a3<|aj s3<|aj z3<|aj i3<|aj a59<|aj s59<|aj z59<|aj i59<|aj n59<|aj p59<|aj ff59<|d59
open Tryz in
def Tryz.FFt1078:=aj a1<|aj s1<|aj z1<|aj n1<|aj u2<|aj a2<|aj s2<|aj z2<|aj i2<|aj u3<|aj a3<|aj s3<|aj z3<|aj i3<|aj u4<|aj a4<|aj s4<|aj z4<|aj n4<|aj u5<|aj a5<|aj s5<|aj z5<|aj i5<|aj u6<|aj a6<|aj s6<|aj z6<|aj i6<|aj a7<|aj s7<|aj z7<|aj i7<|aj n7<|aj p7<|aj ff7<|aj d7<|aj a8<|aj s8<|aj z8<|aj i8<|aj n8<|aj p8<|aj ff8<|aj d8<|aj u9<|aj a9<|aj s9<|aj z9<|aj n9<|aj u10<|aj a10<|aj s10<|aj z10<|aj n10<|aj u11<|aj a11<|aj s11<|aj z11<|aj n11<|aj u12<|aj a12<|aj s12<|aj z12<|aj i12<|aj a13<|aj s13<|aj z13<|aj i13<|aj n13<|aj p13<|aj ff13<|aj d13<|aj a14<|aj s14<|aj z14<|aj i14<|aj n14<|aj p14<|aj ff14<|aj d14<|aj u15<|aj a15<|aj s15<|aj z15<|aj q15<|aj i15<|aj n15<|aj u16<|aj a16<|aj s16<|aj z16<|aj q16<|aj i16<|aj n16<|aj u17<|aj a17<|aj s17<|aj z17<|aj q17<|aj i17<|aj n17<|aj a18<|aj s18<|aj z18<|aj i18<|aj n18<|aj p18<|aj ff18<|aj d18<|aj a19<|aj s19<|aj z19<|aj i19<|aj n19<|aj p19<|aj ff19<|aj d19<|aj a20<|aj s20<|aj z20<|aj q20<|aj n20<|aj u25<|aj a25<|aj s25<|aj z25<|aj q25<|aj n25<|aj u28<|aj a28<|aj s28<|aj z28<|aj q28<|aj n28<|aj a30<|aj s30<|aj z30<|aj i30<|aj n30<|aj p30<|aj ff30<|aj d30<|aj u40<|aj a40<|aj s40<|aj z40<|aj q40<|aj n40<|aj a59<|aj s59<|aj z59<|aj i59<|aj n59<|aj p59<|aj ff59<|aj d59<|aj u146<|aj a146<|aj s146<|aj z146<|aj q146<|aj n146<|aj a149<|aj s149<|aj z149<|aj n149<|aj u197<|aj a197<|aj s197<|aj z197<|aj i197<|aj u263<|aj a263<|aj s263<|aj z263<|aj i263<|aj a274<|aj s274<|aj z274<|aj i274<|aj n274<|aj p274<|aj ff274<|aj d274<|aj u275<|aj a275<|aj s275<|aj z275<|aj n275<|aj a277<|aj s277<|aj z277<|aj i277<|aj n277<|aj u279<|aj a279<|aj s279<|aj z279<|aj i279<|aj a280<|aj s280<|aj z280<|aj n280<|aj u281<|aj a281<|aj s281<|aj z281<|aj q281<|aj i281<|aj n281<|aj u282<|aj a282<|aj s282<|aj z282<|aj i282<|aj u283<|aj a283<|aj s283<|aj z283<|aj i283<|aj a285<|aj s285<|aj z285<|aj i285<|aj n285<|aj p285<|aj ff285<|d285
theorem slice_at{E:Env}{t e:TypeId}{b k len cap l m:Nat}{kd1 kd2 kd3:IntKind}(hu:E.und t=some (.slice e))(hs:E.sz e=some k)(hlm:l<=m)(hm:m<=cap):
 ep E t (.slice (some ⟨b,0,none⟩) len cap) (some (.int kd1 (l:Int))) (some (.int kd2 (l:Int))) (some (.int kd3 (m:Int)))=some (.slice (some ⟨b,if m=l then 0 else l*k,none⟩) 0 (m-l)):=by
 have nat: ∀n:Nat,fT (n:Int)=some n:=fun n=>rfl
 simp only [ep,hu,d9,dV,nat,xZ hm,xZ hlm,xZ (yu l),cond_true,hs,yS,Option.map]
 by_cases h:m=l
 . subst h;rw [yT];simp
 . have:yC m l=false:=by
    cases hb:yC m l with
    |false=>rfl
    |true=>exact absurd (yO hb) h
   rw [this,if_neg h];simp [d5]
theorem St.fill{M:Nat->Prop}{h0 h:Hp}{L:List (Nat×Ob)}{G:List GL}(S:St M h0 h L G){E:Env}{t tx e:TypeId}{by_ i b off len cap md:Nat}{zs l:List Value}{s:Option Nat}{x v:Value}(hi:L[i]? =some (b,.row l md))(hu:E.und t=some (.slice e))(he:dN E e by_ 1 zs)
 (hx:ax E tx=some false) (hsrc:aO h 1 x=some (1,[v])) (hv:Fl v) (hc:len<cap) (ho:off+len<l.length) (hmd:md≠0) {ts:List TypeId}:
 ∃h',c9 E h (t::tx::ts) (.slice (some ⟨b,off,s⟩) len cap) x=some (h',.slice (some ⟨b,off,s⟩) (len+1) cap)/\St M h0 h' (L.set i (b,.row (l.set (off+len) v) md)) G/\Mo (· =b) h h':=by
 obtain⟨⟨i',hi',rfl,hsz⟩,hz,hl2⟩:=he
 have hr:=S.row (yj hi)
 obtain⟨y,h1,h2⟩:=hr.store S.ok hmd (o:=off+len) (vs:=[v]) (by simp;omega) (by simp [hv.2.1])
 have e:lay l (off+len) [v]=l.set (off+len) v:=by
  refine yx fun j=>?_
  rw [iH (by simp;omega),yp]
  simp only [y9,yU]
  by_cases hj:off+len=j
  . subst hj;rw [if_pos ⟨yu _,by omega⟩,if_pos rfl,if_pos ho];simp
  . rw [if_neg (by omega),if_neg hj]
 rw [e]at h2
 refine⟨h.put b y,?_,S.put hi h2,(Mo.refl (M:=(· =b)) S.ok).put (.inr rfl) y⟩
 simp only [c9,hx,jf,hu,hi',hsz,hsrc]
 unfold ey
 rw [xZ (by omega:len+1<=cap)]
 simp only [cond_true,hsz,ym,h1]
theorem note_runq{ρ:Operand->Value}{f:Operand}{xs:Array Operand}{ts:Array TypeId}{h h':Hp}:cb ρ true (.call ⟨.value f,xs,ts⟩) h h'=none:=rfl
theorem mK{i:Nat}:bN i []=none:=rfl
theorem pair_n{x:Option Tch}:iP none x=true:=rfl
def KeyF(E:Env)(g:FuncId)(f:Arc->Nat):Prop:= ∀(h:Hp) (a:Arc),h.t.Sized h.n->bC E g [.agg ⟨cI a⟩] h (.int .i64 (f a))
theorem of2_key:KeyF xX 79 Arc.s:=by
 intro h0 a ok
 have S:=Si ok
 refine ac (n:=5) (rs:=[.tmp 2]) rfl Tryz.e79 rfl rfl rfl (lbt rfl) ?_
 simp only [BS,Nat.reduceLT,cI]
 refine ae (bE (by intro x e;cases e)) S ?_;clear S;intro h b S n_b;simp only [ag]at S
 simp only [BS,LB,ab,Nat.reduceLT,Nat.reduceEqDiff,Tryz.FFt1079,S.ld (b:=b) (o:=0) m0 rfl]
 exact S.gr
theorem of3_key:KeyF xX 80 Arc.t:=by
 intro h0 a ok
 have S:=Si ok
 refine ac (n:=5) (rs:=[.tmp 2]) rfl Tryz.e80 rfl rfl rfl (lbt rfl) ?_
 simp only [BS,Nat.reduceLT,cI]
 refine ae (bE (by intro x e;cases e)) S ?_;clear S;intro h b S n_b;simp only [ag]at S
 simp only [BS,LB,ab,Nat.reduceLT,Nat.reduceEqDiff,Tryz.FFt1080,S.ld (b:=b) (o:=1) m0 rfl]
 exact S.gr
theorem ks(A:List Arc)(f:Arc->Nat)(j v:Nat):(outs A f j v).length<=j:=by
 unfold outs
 exact yn (List.length_filter_le _ _) (by simp)
theorem m9(z:Value)(N:Nat):aU [z] ((N:Int)).toNat=(ya N).map fun _=>z:=by
 rw [yk]
 have: ∀n,aU [z] n=xY n z:=by
  intro n
  induction n with
  |zero=>rfl
  |succ n ih=>simp [aU,ih,zt]
 rw [this,List.map_const',List.length_range]
def kx(A:List Arc)(f:Arc->Nat)(i v:Nat):Value:=.int .i64 ((outs A f i v).length:Nat)
def fL(A:List Arc)(f:Arc->Nat)(b v n:Nat):Value:=.slice (some ⟨b,if(outs A f A.length v).length=0 then 0 else start A f v,none⟩) n (outs A f A.length v).length
theorem cnt_set{A:List Arc}{f:Arc->Nat}{N i:Nat}(hi:i<A.length):((ya N).map (kx A f i)).set (f A[i]) (.int .i64 (((outs A f i (f A[i])).length+1:Nat):Int))=(ya N).map (kx A f (i+1)):=by
 have hd:A.getD i default=A[i]:=by simp [xW,hi]
 have e:(.int .i64 (((outs A f i (f A[i])).length+1:Nat):Int):Value)=kx A f (i+1) (f A[i]):=by
  unfold kx;rw [gu,hd,if_pos rfl,yh];rfl
 rw [e]
 refine ij fun v hv hne=>?_
 unfold kx
 rw [gu,hd,if_neg (fun e=>hne e.symm),yo]
def rJ(A:List Arc)(f:Arc->Nat)(N i:Nat)(cs:List Value):Prop:=
 cs.length=A.length/\ ∀v r x,v<N->(outs A f i v)[r]? =some x->cs[start A f v+r]? =some (.int .i64 (x:Nat))
theorem fill_zero{A:List Arc}{f:Arc->Nat}{N:Nat}:rJ A f N 0 ((ya A.length).map fun _=>.int .i64 0):=
 ⟨by simp,fun v r x _ h=>by simp [outs]at h⟩
theorem fill_step{A:List Arc}{f:Arc->Nat}{N i:Nat}{cs:List Value}(h:rJ A f N i cs)(hi:i<A.length):rJ A f N (i+1) (cs.set (start A f (f A[i])+(outs A f i (f A[i])).length) (.int .i64 (i:Nat))):=by
 have hd:A.getD i default=A[i]:=by simp [xW,hi]
 have hl:(outs A f (i+1) (f A[i])).length<=(outs A f A.length (f A[i])).length:=sa A f (by omega) _
 rw [gu,hd,if_pos rfl,yh]at hl
 have hlt:(outs A f i (f A[i])).length<(outs A f A.length (f A[i])).length:=by simp at hl;omega
 have top:=mz A f (f A[i])
 refine⟨by rw [yd];exact h.1,fun v r x hv hx=>?_⟩
 have hr:r<(outs A f (i+1) v).length:=(List.getElem?_eq_some_iff.1 hx).1
 have hr2:r<(outs A f A.length v).length:=y5 hr (sa A f (by omega) v)
 rw [yp]
 by_cases e:start A f (f A[i])+(outs A f i (f A[i])).length=start A f v+r
 . obtain⟨e1,e2⟩:=wj A f hlt hr2 e
   subst e1
   rw [if_pos e,if_pos (by rw [h.1];omega)]
   rw [gu,hd,if_pos rfl,yy,if_neg (by omega),e2,yS]at hx
   simp at hx
   rw [hx]
 . rw [if_neg e]
   refine h.2 v r x hv ?_
   rw [gu,hd]at hx
   by_cases e1:f A[i]=v
   . rw [if_pos e1,yy]at hx
     subst e1
     by_cases h3:r<(outs A f i (f A[i])).length
     . rw [if_pos h3]at hx;exact hx
     . rw [if_neg h3]at hx
       have:=(List.getElem?_eq_some_iff.1 hx).1
       simp at this
       exact absurd (by omega) e
   . rw [if_neg e1,yo]at hx;exact hx
theorem of1_ok {h0:Hp} (ok:h0.t.Sized h0.n) {γ:Gra} (hγ:Good γ) {vx vy va:Value} {b:Nat} (hb:Row h0 b [.int .i64 γ.nodes,vx,vy,va] 1) (ga:cN h0 vx vy va γ) {g:FuncId} {f:Arc->Nat} (hk:KeyF xX g f) (hf: ∀a∈γ.arcs,f a<γ.nodes):
 Ret xX 78 [.func (.func g) #[] #[],ptrTo b] h0 fun v h'=>Gr h0 h'/\ff h' h0.n v γ.nodes (outs γ.arcs f γ.arcs.length):=by
 have S:=Si ok
 have n2:=hγ.n2
 have many:=hγ.many
 obtain⟨N,X,Y,A⟩:=γ
 simp only []at hb n2 many hf
 have gA:aA h0 3 cI va A:=ga.A
 have l0:=hb.load1 (o:=0) rfl
 have l3:=hb.load1 (o:=3) rfl
 refine ac (n:=85) (rs:=[.tmp 3]) rfl Tryz.e78 rfl rfl rfl (lbt rfl) ?_
 simp only [BS,LB,Nat.reduceLT,Nat.reduceEqDiff,Tryz.FFt1078,l0]
 refine ae (kN (by exact yw) (by exact yL) (by omega) (by omega)) S ?_;clear S;intro h bm S n_bm
 rw [m9]at S
 replace S:St NoM h0 h [(bm,.row ((ya N).map (kx A f 0)) 1)] []:=S
 simp only [BS,LB,Nat.reduceLT,Nat.reduceEqDiff,Tryz.FFt1078,S.old l3 (fun h=>h),gA.lenq,yk]
 refine aZ (fun(i:Nat) ρ h=>i<=A.length/\St NoM h0 h [(bm,.row ((ya N).map (kx A f i)) 1)] []/\ρ 0=.func (.func g) #[] #[]/\ρ 1=ptrTo b/\ρ 4=.slice (some ⟨bm,0,none⟩) N N/\ρ 18=va/\ρ 19=.int .i64 A.length/\ρ 20=.int .i64 i) (fun i=>A.length-i) ?_ 0 _ _ ?_
 . clear S
   intro i ih ρ h ⟨hi,S,r0,r1,r4,r18,r19,r20⟩
   by_cases hlt:i<A.length
   . obtain⟨c,o,hidx,hld⟩:=(gA.gr S.gr).ix (kd:=.i64) eP hlt
     have hfi:f A[i]<N:=hf _ (yM hlt)
     have hol:=ks A f i (f A[i])
     have w:au .i64 ((i:Int)+1)=((i+1:Nat):Int):=by rw [wrap64]<;>omega
     have w2:au .i64 (((outs A f i (f A[i])).length:Int)+1)=(((outs A f i (f A[i])).length+1:Nat):Int):=by rw [wrap64]<;>omega
     simp only [BS,LB,Nat.reduceLT,Nat.reduceEqDiff,Tryz.FFt1078,r18,r19,r20,aI,hlt,hidx,hld]
     refine ae aw S ?_;clear S;intro h b6 S n_b6
     simp only [BS,LB,Nat.reduceLT,Nat.reduceEqDiff,cI]
     refine az (S.store (i:=0) rfl ?_ ?_ rfl rfl ?_ ono) ?_
     . exact(by exact za)
     . exact(by intro x e;cases e)
     . exact lbt rfl
     clear S;rintro h ⟨S,mo⟩;clear mo;simp only [LC,ag,lay,yq,yr,Nat.reduceAdd]at S
     simp only [BS,LB,Nat.reduceLT,Nat.reduceEqDiff,Tryz.FFt1078,r0,r4,S.lds (b:=b6) (o:=0) (n:=3) m0 (lbt rfl)]
     refine ar (hk _ A[i] S.ok) ?_;intro h g;replace S:=S.call g;clear g
     have lm:=S.ld (b:=bm) (o:=f A[i]) m1 (gL (F:=kx A f i) hfi)
     unfold kx at lm
     simp only [BS,LB,Nat.reduceLT,Nat.reduceEqDiff,Tryz.FFt1078,hfi,lm,w2]
     refine az (aB S (i:=1) rfl zj bw (by simpa using hfi) ono) ?_
     clear S lm;rintro h ⟨S,mo⟩;clear mo
     simp only [LC]at S
     rw [cnt_set hlt]at S
     replace S:=S.drop1
     simp only [BS,LB,Nat.reduceLT,Nat.reduceEqDiff,r20,w]
     exact ih (i+1) _ _ (by omega) ⟨by omega,S,by simp [aa,r0],by simp [aa,r1,ah],by simp [aa,r4],by simp [aa,r18],by simp [aa,r19],by simp [aa]⟩
   . have hiN : i=A.length:=by omega
     subst hiN
     simp only [BS,LB,Nat.reduceLT,r19,r20,aI,hlt]
     refine aC (aH rfl) (q:=72) (ps:=[]) (by kernel_rfl) ?_
     simp only [BS,LB,cls,Nat.reduceLT,Nat.reduceEqDiff,Nat.reduceAdd,Nat.reducePow,Nat.reduceDiv,Nat.reduceMod,Nat.reduceLeDiff,Tryz.FFt1078,r1,S.old l3 (fun h=>h),gA.lenq]
     refine dt (kN (by exact yw) (by exact yL) (by omega) (by omega)) S ?_;clear S;intro h ba S n_ba e_ba
     rw [m9]at S
     simp only [BS,LB,cls,Nat.reduceLT,Nat.reduceEqDiff,Nat.reduceAdd,Nat.reducePow,Nat.reduceDiv,Nat.reduceMod,Nat.reduceLeDiff,Tryz.FFt1078,r1,S.old l0 (fun h=>h),yk]
     refine dt (kN (by exact Tryz.u146) (by exact Tryz.e40E) (by omega) (by omega)) S ?_;clear S;intro h br S n_br e_br
     rw [m9]at S
     simp only [BS,LB,cls,Nat.reduceLT,Nat.reduceEqDiff,Nat.reduceAdd,Nat.reducePow,Nat.reduceDiv,Nat.reduceMod,Nat.reduceLeDiff,Tryz.FFt1078,r4,yk]
     have e0:(ya N).map (fun v=>if v<0 then fL A f ba v 0 else .slice none 0 0)=(ya N).map (fun _=>(.slice none 0 0:Value)):=by simp
     rw [<-e0]at S
     refine aZ (fun(j:Nat) ρ h=>j<=N/\St NoM h0 h [(br,.row ((ya N).map fun v=>if v<j then fL A f ba v 0 else .slice none 0 0) 1),(ba,.row ((ya A.length).map fun _=>.int .i64 0) 1),(bm,.row ((ya N).map (kx A f A.length)) 1)] []/\
      ρ 0=.func (.func g) #[] #[]/\ρ 1=ptrTo b/\ρ 7=.slice (some ⟨ba,0,none⟩) A.length A.length/\ρ 8=.slice (some ⟨br,0,none⟩) N N/\ρ 9=.int .i64 (start A f j)/\ρ 40=.slice (some ⟨bm,0,none⟩) N N/\ρ 41=.int .i64 N/\ρ 42=.int .i64 j) (fun j=>N-j) ?_ 0 _ _ ?_
     . clear S r0 r1 r4 r18 r19 r20
       intro j ih ρ h ⟨hj,S,r0,r1,r7,r8,r9,r40,r41,r42⟩
       by_cases hjt:j<N
       . have lm:=S.ld (b:=bm) (o:=j) m2 (gL (F:=kx A f A.length) hjt)
         unfold kx at lm
         have top:=mz A f j
         have w:au .i64 ((j:Int)+1)=((j+1:Nat):Int):=by rw [wrap64]<;>omega
         have w2:au .i64 ((start A f j:Int)+((outs A f A.length j).length:Nat))=((start A f j+(outs A f A.length j).length:Nat):Int):=by rw [wrap64]<;>omega
         have sl:ep xX 40 (.slice (some ⟨ba,0,none⟩) A.length A.length) (some (.int .i64 (start A f j))) (some (.int .i64 (start A f j))) (some (.int .i64 ((start A f j+(outs A f A.length j).length:Nat):Int)))=some (fL A f ba j 0):=by
          rw [slice_at yw zj (by omega) (by omega)]
          unfold fL
          rw [zf,ym]
          by_cases hz:(outs A f A.length j).length=0
          . rw [if_pos (by omega),if_pos hz]
          . rw [if_neg (by omega),if_neg hz]
         have fr:Fl (fL A f ba j 0):=aW
         simp only [BS,LB,Nat.reduceLT,Nat.reduceEqDiff,yV,Tryz.FFt1078,r7,r8,r9,r40,r41,r42,aI,hjt,lm,w2,sl]
         refine az (aB S (i:=0) rfl Tryz.s40 fr (by simpa using hjt) ono) ?_
         clear S lm;rintro h ⟨S,mo⟩;clear mo
         simp only [LC]at S
         rw [show((ya N).map fun v=>if v<j then fL A f ba v 0 else .slice none 0 0).set j (fL A f ba j 0)=(ya N).map fun v=>if v<j+1 then fL A f ba v 0 else .slice none 0 0 from by
          have:=ij (N:=N) (k:=j) (F:=fun v=>if v<j then fL A f ba v 0 else .slice none 0 0) (F':=fun v=>if v<j+1 then fL A f ba v 0 else .slice none 0 0) (fun v hv hne=>by
           show ite _ _ _=ite _ _ _
           by_cases h1:v<j
           . rw [if_pos h1,if_pos (by omega)]
           . rw [if_neg h1,if_neg (by omega)])
          simp only [if_pos (show j<j+1 by omega)]at this
          exact this]at S
         simp only [BS,LB,Nat.reduceLT,Nat.reduceEqDiff,r9,r42,w,w2]
         exact ih (j+1) _ _ (by omega) ⟨by omega,S,by simp [aa,r0],by simp [aa,r1,ah],by simp [aa,r7],by simp [aa,r8],by simp [aa,start],by simp [aa,r40],by simp [aa,r41],by simp [aa]⟩
       . have hjN:j=N:=by omega
         subst hjN
         simp only [BS,LB,Nat.reduceLT,Nat.reduceEqDiff,Tryz.FFt1078,r1,r41,r42,aI,hjt,S.old l3 (fun h=>h),gA.lenq]
         have e1:((ya j).map fun v=>if v<j then fL A f ba v 0 else .slice none 0 0)=(ya j).map fun v=>fL A f ba v (outs A f 0 v).length:=by
          refine List.map_congr_left fun v hv=>?_
          rw [if_pos (List.mem_range.1 hv)];rfl
         rw [e1]at S
         refine aZ (fun(i:Nat) ρ h=>i<=A.length/\(∃cs,rJ A f j i cs/\St NoM h0 h [(br,.row ((ya j).map fun v=>fL A f ba v (outs A f i v).length) 1),(ba,.row cs 1),(bm,.row ((ya j).map (kx A f A.length)) 1)] [])/\
          ρ 0=.func (.func g) #[] #[]/\ρ 1=ptrTo b/\ρ 8=.slice (some ⟨br,0,none⟩) j j/\ρ 62=va/\ρ 63=.int .i64 A.length/\ρ 64=.int .i64 i) (fun i=>A.length-i) ?_ 0 _ _ ?_
         . clear S r0 r1 r7 r8 r9 r40 r41 r42
           intro i ih ρ h ⟨hi,⟨cs,hcs,S⟩,r0,r1,r8,r62,r63,r64⟩
           by_cases hlt:i<A.length
           . obtain⟨c,o,hidx,hld⟩:=(gA.gr S.gr).ix (kd:=.i64) eP hlt
             have hfi:f A[i]<j:=hf _ (yM hlt)
             have w:au .i64 ((i:Int)+1)=((i+1:Nat):Int):=by rw [wrap64]<;>omega
             simp only [BS,LB,Nat.reduceLT,Nat.reduceEqDiff,Tryz.FFt1078,r62,r63,r64,aI,hlt,hidx,hld]
             refine ae aw S ?_;clear S;intro h b13 S n_b13
             simp only [BS,LB,Nat.reduceLT,Nat.reduceEqDiff,cI]
             refine az (S.store (i:=0) rfl ?_ ?_ rfl rfl ?_ ono) ?_
             . exact(by exact za)
             . exact(by intro x e;cases e)
             . exact lbt rfl
             clear S;rintro h ⟨S,mo⟩;clear mo;simp only [LC,ag,lay,yq,yr,Nat.reduceAdd]at S
             simp only [BS]
             refine aC (aH rfl) (q:=2184) (ps:=[(3,6)]) (by kernel_rfl) ?_
             simp only [BS,LB,cls,Nat.reduceLT,Nat.reduceEqDiff,Nat.reduceAdd,Nat.reducePow,Nat.reduceDiv,Nat.reduceMod,Nat.reduceLeDiff,Tryz.FFt1078,r0,r8,S.lds (b:=b13) (o:=0) (n:=3) m0 (lbt rfl)]
             refine sf (hk _ A[i] S.ok) ?_
             intro h g1;replace S:=S.call g1;clear g1
             simp only [BS,LB,cls,Nat.reduceLT,Nat.reduceEqDiff,Nat.reduceAdd,Nat.reducePow,Nat.reduceDiv,Nat.reduceMod,Nat.reduceLeDiff,Tryz.FFt1078,r0,r8,S.lds (b:=b13) (o:=0) (n:=3) m0 (lbt rfl)]
             refine sf (hk _ A[i] S.ok) ?_
             intro h g1;replace S:=S.call g1;clear g1
             have hd:A.getD i default=A[i]:=by simp [xW,hlt]
             have hl:(outs A f (i+1) (f A[i])).length<=(outs A f A.length (f A[i])).length:=sa A f (by omega) _
             rw [gu,hd,if_pos rfl,yh,zk]at hl
             have top:=mz A f (f A[i])
             have hK:(outs A f A.length (f A[i])).length≠0:=by omega
             have lr:=S.ld (b:=br) (o:=f A[i]) m1 (gL (F:=fun v=>fL A f ba v (outs A f i v).length) hfi)
             simp only [fL,if_neg hK]at lr
             simp only [BS,LB,cls,Nat.reduceLT,Nat.reduceEqDiff,Nat.reduceAdd,Nat.reducePow,Nat.reduceDiv,Nat.reduceMod,Nat.reduceLeDiff,Tryz.FFt1078,hfi,lr]
             refine dt (bL (by exact yw) (by exact yL) (by decide) (by rfl)) S ?_;clear S;intro h bs S n_bs e_bs;simp only [LC,aU,bI,ag,Nat.reduceMul,Nat.reduceAdd,yF,yz,ym,yZ]at S
             simp only [BS,LB,cls,Nat.reduceLT,Nat.reduceEqDiff,Nat.reduceAdd,Nat.reducePow,Nat.reduceDiv,Nat.reduceMod,Nat.reduceLeDiff]
             obtain⟨h2,e2,S2,mo2⟩:=S.fill (i:=3) (x:=.slice (some ⟨bs,0,none⟩) 1 1) (v:=.int .i64 (i:Nat)) (off:=start A f (f A[i])) (len:=(outs A f i (f A[i])).length) (cap:=(outs A f A.length (f A[i])).length) (s:=none) rfl yw yL Tryz.n40
              (by simp only [aO];rw [S.lds (b:=bs) (o:=0) (n:=1*1) m0 (lbt rfl)];rfl) bw (by omega) (by have:=hcs.1;omega) ono (ts:=[])
             refine dn_v (P:=fun h' v=>h'=h2/\v=.slice (some ⟨ba,start A f (f A[i]),none⟩) ((outs A f i (f A[i])).length+1) (outs A f A.length (f A[i])).length) ⟨_,_,e2,rfl,rfl⟩ ?_
             rintro h v ⟨rfl,rfl⟩
             clear S e2 mo2;have S:=S2;clear S2
             simp only [LC]at S
             simp only [BS,LB,cls,Nat.reduceLT,Nat.reduceEqDiff,Nat.reduceAdd,Nat.reducePow,Nat.reduceDiv,Nat.reduceMod,Nat.reduceLeDiff,Tryz.FFt1078,hfi]
             refine c5 (aB S (i:=2) rfl Tryz.s40 aW (by simpa using hfi) ono) ?_
             clear S;rintro h ⟨S,mo⟩;clear mo
             simp only [LC]at S
             have e3:((ya j).map fun v=>fL A f ba v (outs A f i v).length).set (f A[i]) (.slice (some ⟨ba,start A f (f A[i]),none⟩) ((outs A f i (f A[i])).length+1) (outs A f A.length (f A[i])).length)=(ya j).map fun v=>fL A f ba v (outs A f (i+1) v).length:=by
              have:=ij (N:=j) (k:=f A[i]) (F:=fun v=>fL A f ba v (outs A f i v).length) (F':=fun v=>fL A f ba v (outs A f (i+1) v).length) (fun v hv hne=>by
               show fL _ _ _ _ _=fL _ _ _ _ _
               rw [gu,hd,if_neg (fun e=>hne e.symm),yo])
              rw [<-this]
              congr 1
              show _=fL _ _ _ _ _
              rw [gu,hd,if_pos rfl,yh]
              unfold fL
              rw [if_neg hK];rfl
             rw [e3]at S
             replace S:=S.drop1.drop1
             simp only [BS,LB,Nat.reduceLT,Nat.reduceEqDiff,Nat.reduceAdd,r64,w]
             refine⟨by simp only [aX,bu,aS,bz,aT,ne_eq,not_false_eq_true,bF,bJ,bA,aY,bK,cD,aK,Nat.reduceLT,Nat.reduceEqDiff,reduceIte,zq,r0,r1,r8,ah,note_runq,jS,mK,pair_n],?_⟩
             exact ih (i+1) _ _ (by omega) ⟨by omega,⟨_,fill_step hcs hlt,S⟩,by simp [aa,r0],by simp [aa,r1,ah],by simp [aa,r8],by simp [aa,r62],by simp [aa,r63],by simp [aa]⟩
           . have hiN:i=A.length:=by omega
             subst hiN
             simp only [BS,LB,ab,Nat.reduceLT,Nat.reduceEqDiff,r8,r63,r64,aI,hlt]
             refine⟨S.gr,br,_,rfl,n_br,S.row m0,by simp,fun v hv=>⟨_,gL hv,.inr ⟨ba,_,none,_,rfl,yu _,?_⟩,fun c (hc:ba=c)=>hc▸n_ba⟩⟩
             have hR:=S.row (b:=ba) (l:=cs) (md:=1) m1
             have ht:=mz A f v
             have hl:=hcs.1
             rw [ym]
             by_cases hz:(outs A f A.length v).length=0
             . rw [if_pos hz,hz,hR.load (by omega)]
               rw [List.length_eq_zero_iff.1 hz];rfl
             . rw [if_neg hz,hR.load (by omega)]
               congr 1
               refine yx fun r=>?_
               have e4:(outs A f A.length v).flatMap bW=(outs A f A.length v).map fun x=>.int .i64 (x:Nat):=by
                rw [zl,List.map_eq_flatMap,zl];rfl
               rw [e4,y7,List.getElem?_take,List.getElem?_drop]
               by_cases hr:r<(outs A f A.length v).length
               . rw [if_pos hr,hcs.2 v r _ hv (yA hr),yA hr];rfl
               . rw [if_neg hr,yP (by omega)];rfl
         . exact⟨zF _,⟨_,fill_zero,S⟩,by simp [aa,r0],by simp [aa,r1,ah],by simp [aa,r8],by simp [aa],by simp [aa],by simp [aa]⟩
     . exact⟨zF _,S,by simp [aa,r0],by simp [aa,r1,ah],by simp [aa],by simp [aa],by simp [aa,start],by simp [aa,r4],by simp [aa],by simp [aa]⟩
 . exact⟨zF _,S,by simp [aa,aV],by simp [aa,aV,bV,ah],by simp [aa],by simp [aa],by simp [aa],by simp [aa]⟩
open Tryz in
def Tryz.FFt1132:=aj a1<|aj s1<|aj z1<|aj n1<|aj u2<|aj a2<|aj s2<|aj z2<|aj i2<|aj u3<|aj a3<|aj s3<|aj z3<|aj i3<|aj u4<|aj a4<|aj s4<|aj z4<|aj n4<|aj u25<|aj a25<|aj s25<|aj z25<|aj q25<|aj n25<|aj u28<|aj a28<|aj s28<|aj z28<|aj q28<|aj n28<|aj a30<|aj s30<|aj z30<|aj i30<|aj n30<|aj p30<|aj ff30<|aj d30<|aj u32<|aj a32<|aj s32<|aj z32<|aj q32<|aj i32<|aj n32<|aj u40<|aj a40<|aj s40<|aj z40<|aj q40<|aj n40<|aj a59<|aj s59<|aj z59<|aj i59<|aj n59<|aj p59<|aj ff59<|aj d59<|aj u146<|aj a146<|aj s146<|aj z146<|aj q146<|aj n146<|aj a148<|aj s148<|aj z148<|aj i148<|aj n148<|aj p148<|aj ff148<|aj d148<|aj a149<|aj s149<|aj z149<|aj n149<|aj a150<|aj s150<|aj z150<|n150
open Tryz in
def Tryz.FFt119:=aj a1<|aj s1<|aj z1<|aj n1<|aj u2<|aj a2<|aj s2<|aj z2<|aj i2<|aj u3<|aj a3<|aj s3<|aj z3<|aj i3<|aj u4<|aj a4<|aj s4<|aj z4<|aj n4<|aj u5<|aj a5<|aj s5<|aj z5<|aj i5<|aj u25<|aj a25<|aj s25<|aj z25<|aj q25<|aj n25<|aj u28<|aj a28<|aj s28<|aj z28<|aj q28<|aj n28<|aj a30<|aj s30<|aj z30<|aj i30<|aj n30<|aj p30<|aj ff30<|aj d30<|aj u32<|aj a32<|aj s32<|aj z32<|aj q32<|aj i32<|aj n32<|aj a34<|aj s34<|aj z34<|aj q34<|aj n34<|aj u44<|aj a44<|aj s44<|aj z44<|aj i44<|aj a59<|aj s59<|aj z59<|aj i59<|aj n59<|aj p59<|aj ff59<|aj d59<|aj a78<|aj s78<|aj z78<|aj i78<|aj n78<|aj p78<|aj ff78<|aj d78<|aj u80<|aj a80<|aj s80<|aj z80<|aj q80<|aj i80<|aj n80<|aj a82<|aj s82<|aj z82<|aj i82<|aj n82<|aj p82<|aj ff82<|aj d82<|aj u146<|aj a146<|aj s146<|aj z146<|aj q146<|aj n146<|aj a148<|aj s148<|aj z148<|aj i148<|aj n148<|aj p148<|aj ff148<|d148
theorem of_ok{h0:Hp}(ok:h0.t.Sized h0.n){γ:Gra}(hγ:Good γ){vx vy va:Value}(ga:cN h0 vx vy va γ){m:Nat}(hm:m<=h0.n)(hz: ∀c,av vx c\/av vy c\/av va c->m<=c):
 Ret xX 32 [gH γ vx vy va] h0 fun v h'=>Gr h0 h'/\bT h' m v γ:=by
 have S:=Si ok
 refine ac (n:=20) (rs:=[.tmp 2]) rfl Tryz.e32 rfl rfl rfl (lbt rfl) ?_
 simp only [BS,Nat.reduceLT,gH]
 refine ae (bE (by intro x e;cases e)) S ?_;clear S;intro h b S n_b;simp only [ag]at S
 simp only [BS,LB,Nat.reduceLT,Nat.reduceEqDiff,Nat.reduceAdd,Nat.reduceLeDiff,Tryz.FFt1132,yK,yI,yX,S.lds (b:=b) (o:=0) (n:=4) m0 (lbt rfl)]
 refine ae (bE (by intro x e;cases e)) S ?_;clear S;intro h b2 S n_b2;simp only [ag]at S
 simp only [BS,LB,Nat.reduceLT,Nat.reduceEqDiff]
 have k1:=S.fr.n
 have lt1:=(S.row (b:=b2) m0).lt S.ok
 refine step_ret (of1_ok S.ok hγ (S.row m1) (ga.gr S.gr) of2_key (fun a ha=>(hγ.arcs a ha).1)) ?_;intro vo h ⟨g,R1⟩;replace S:=S.call g;clear g
 simp only [BS,LB,Nat.reduceLT,Nat.reduceEqDiff]
 have k2:=S.fr.n
 have lt2:=(S.row (b:=b2) m0).lt S.ok
 refine step_ret (of1_ok S.ok hγ (S.row m1) (ga.gr S.gr) of3_key (fun a ha=>(hγ.arcs a ha).2.1)) ?_;intro v h ⟨g,R2⟩;replace S:=S.call g;replace R1:=R1.gr g;clear g
 have f1:Fl v:=by obtain⟨_,_,rfl,_⟩:=R2;exact aW
 have f2:Fl vo:=by obtain⟨_,_,rfl,_⟩:=R1;exact aW
 simp only [BS,LB,Nat.reduceLT,Nat.reduceEqDiff,Tryz.FFt1132]
 have a1: ∀c,c=b2->c<_:=fun c e=>e▸lt1
 have a2: ∀c,c=b2->c<_:=fun c e=>e▸lt2
 refine az (aB S (i:=0) rfl ?_ ?_ ?_ ono) ?_
 . exact(by simp only [Tryz.FFt1132])
 . exact(by assumption)
 . exact yl (lbt rfl)
 clear S;rintro h ⟨S,mo⟩;replace R1:=R1.mo mo a1;replace R2:=R2.mo mo a2;clear mo;simp only [LC,ag,lay,yq,yr,Nat.reduceAdd]at S
 simp only [BS,LB,Nat.reduceLT,Nat.reduceEqDiff,Tryz.FFt1132]
 refine az (aB S (i:=0) rfl ?_ ?_ ?_ ono) ?_
 . exact(by simp only [Tryz.FFt1132])
 . exact(by assumption)
 . exact yl (lbt rfl)
 clear S;rintro h ⟨S,mo⟩;replace R1:=R1.mo mo a1;replace R2:=R2.mo mo a2;clear mo;simp only [LC,ag,lay,yq,yr,Nat.reduceAdd]at S
 simp only [BS,LB,ab,Nat.reduceLT,Nat.reduceEqDiff]
 exact⟨S.gr,b2,vx,vy,va,vo,v,rfl,S.row m0,ga.gr S.gr,R1.low (yn hm k1),R2.low (yn hm k2),yn hm n_b2,hz⟩
theorem te{h0:Hp}(ok:h0.t.Sized h0.n){γ:Gra}(hγ:Good γ){vx vy va:Value}(ga:cN h0 vx vy va γ):
 Ret xX 9 [gH γ vx vy va] h0 fun r h'=> ∃v,r=.tuple #[v,.nilIface]/\Gr h0 h'/\bT h' h0.n v γ:=by
 have S:=Si ok
 refine ac (n:=17) (rs:=[.tmp 2,.tmp 3]) rfl Tryz.e9 rfl rfl rfl (lbt rfl) ?_
 simp only [BS,Nat.reduceLT,gH]
 refine ae (bE (by intro x e;cases e)) S ?_;clear S;intro h b S n_b;simp only [ag]at S
 simp only [BS,LB,Nat.reduceLT,Nat.reduceEqDiff,Tryz.FFt119,yK,yI,yX,S.lds (b:=b) (o:=0) (n:=4) m0 (lbt rfl)]
 refine ar (check_ok S.ok hγ (ga.gr S.gr)) ?_;intro h g;replace S:=S.call g;clear g
 simp only [BS,LB,Nat.reduceLT,Nat.reduceEqDiff,Tryz.FFt119,yK,yI,yX,S.lds (b:=b) (o:=0) (n:=4) m0 (lbt rfl)]
 have k1:=S.fr.n
 refine step_ret (own_ok S.ok hγ (ga.gr S.gr)) ?_;intro v h ⟨g,vx',vy',va',ev,ga',hz,_⟩;replace S:=S.call g;clear g
 subst ev
 simp only [BS,LB,Nat.reduceLT,Nat.reduceEqDiff]
 refine step_ret (of_ok S.ok hγ ga' (m:=h0.n) S.fr.n (fun c hc=>yn k1 (hz c hc))) ?_;intro v h ⟨g,R⟩;replace S:=S.call g;clear g
 simp only [BS,LB,ab,Nat.reduceLT,Nat.reduceEqDiff]
 exact⟨_,rfl,S.gr,R⟩
end Go.Ab
end
section
namespace Go.Ab
structure Hd where
 id:Nat
 key:Int
deriving Inhabited,DecidableEq
def hle(a b:Hd):Prop:=a.key<b.key\/(a.key=b.key/\a.id<=b.id)
def hlt(a b:Hd):Prop:=a.key<b.key\/(a.key=b.key/\a.id<b.id)
instance (a b:Hd):Decidable (hlt a b):=by unfold hlt;infer_instance
theorem rA{a b:Hd}(h: ¬hlt a b):hle b a:=by unfold hlt at h;unfold hle;omega
theorem oY{a b:Hd}(h:hlt a b):hle a b:=by unfold hlt at h;unfold hle;omega
theorem iU{a b c:Hd}(h:hle a b)(k:hle b c):hle a c:=by unfold hle at*;omega
theorem qs(a:Hd):hle a a:=by unfold hle;omega
def sw(l:List Hd)(i k:Nat):List Hd:=(l.set i (l.getD k default)).set k (l.getD i default)
theorem fO(l:List Hd)(i k:Nat):(sw l i k).length=l.length:=by simp [sw]
theorem iZ(l:List Hd)(i j:Nat)(x:Hd):(l.set i x).getD j default=if i=j/\j<l.length then x else l.getD j default:=by
 rw [xW,xW,yp]
 by_cases h:i=j
 . subst h
   by_cases h2:i<l.length
   . simp [h2]
   . simp [h2]
 . simp [h]
theorem gJ(l:List Hd){i k:Nat}(hi:i<l.length)(hk:k<l.length)(j:Nat):(sw l i k).getD j default=if j=k then l.getD i default else if j=i then l.getD k default else l.getD j default:=by
 unfold sw
 rw [iZ,iZ,yd]
 by_cases h1:k=j
 . subst h1;simp [hk]
 . have h1': ¬j=k:=fun e=>h1 e.symm
   simp only [h1,h1',false_and,if_false]
   by_cases h2:i=j
   . subst h2;simp [hi]
   . have h2': ¬j=i:=fun e=>h2 e.symm
     simp [h2,h2']
theorem pb(l:List Hd){i k:Nat}(hi:i<l.length)(hk:k<l.length):(sw l i k).Perm l:=by
 have:((l.set i l[k]).set k l[i]).Perm l:=List.set_set_perm hi hk
 unfold sw
 rwa [show l.getD k default=l[k] by simp [xW,hk],show l.getD i default=l[i] by simp [xW,hi]]
def jP(l:List Hd):Prop:= ∀j,0<j->j<l.length->hle (l.getD ((j-1)/4) default) (l.getD j default)
def ot(l:List Hd)(i:Nat):Prop:=(∀j,0<j->j<l.length->j≠i->hle (l.getD ((j-1)/4) default) (l.getD j default))/\ ∀j,0<j->j<l.length->(j-1)/4=i->0<i->hle (l.getD ((i-1)/4) default) (l.getD j default)
theorem up_done{l:List Hd}{i:Nat}(h:ot l i)(hd:i=0\/hle (l.getD ((i-1)/4) default) (l.getD i default)):jP l:=by
 intro j h0 hj
 by_cases e:j=i
 . subst e;exact hd.resolve_left (by omega)
 . exact h.1 j h0 hj e
theorem up_step{l:List Hd}{i:Nat}(hi:i<l.length)(h:ot l i)(h0:0<i)(hd:hlt (l.getD i default) (l.getD ((i-1)/4) default)):ot (sw l i ((i-1)/4)) ((i-1)/4):=by
 have hp:(i-1)/4<l.length:=by omega
 generalize hpe:(i-1)/4=p at*
 have pi:p<i:=by omega
 refine⟨fun j j0 jl jp=>?_,fun j j0 jl jp p0=>?_⟩
 . rw [fO]at jl
   rw [gJ l hi hp,gJ l hi hp,if_neg jp]
   by_cases e1:j=i
   . subst e1;rw [hpe,if_pos rfl,if_pos rfl];exact oY hd
   . rw [if_neg e1]
     by_cases e2:(j-1)/4=p
     . rw [if_pos e2]
       have:=h.1 j j0 jl e1
       rw [e2]at this
       exact iU (oY hd) this
     . rw [if_neg e2]
       by_cases e3:(j-1)/4=i
       . rw [if_pos e3];have:=h.2 j j0 jl e3 h0;rwa [hpe]at this
       . rw [if_neg e3];exact h.1 j j0 jl e1
 . rw [fO]at jl
   have q1: ¬(p-1)/4=p:=by omega
   have q2: ¬(p-1)/4=i:=by omega
   rw [gJ l hi hp,gJ l hi hp,if_neg q1,if_neg q2,if_neg (show¬j=p by omega)]
   have k1:=h.1 p p0 hp (by omega)
   by_cases e1:j=i
   . rw [if_pos e1];exact k1
   . rw [if_neg e1]
     have:=h.1 j j0 jl e1
     rw [jp]at this
     exact iU k1 this
def pA(l:List Hd)(i:Nat):Prop:=(∀j,0<j->j<l.length->(j-1)/4≠i->hle (l.getD ((j-1)/4) default) (l.getD j default))/\ ∀j,0<j->j<l.length->(j-1)/4=i->0<i->hle (l.getD ((i-1)/4) default) (l.getD j default)
theorem dn_done{l:List Hd}{i:Nat}(h:pA l i)(hd: ∀j,0<j->j<l.length->(j-1)/4=i->hle (l.getD i default) (l.getD j default)):jP l:=by
 intro j h0 hj
 by_cases e:(j-1)/4=i
 . rw [e];exact hd j h0 hj e
 . exact h.1 j h0 hj e
theorem dn_step{l:List Hd}{i b:Nat}(h:pA l i)(b0:0<b)(bl:b<l.length)(be:(b-1)/4=i)(hd:hlt (l.getD b default) (l.getD i default))(hm: ∀j,0<j->j<l.length->(j-1)/4=i->hle (l.getD b default) (l.getD j default)):pA (sw l i b) b:=by
 have il:i<l.length:=by omega
 refine⟨fun j j0 jl jp=>?_,fun j j0 jl jp _=>?_⟩
 . rw [fO]at jl
   rw [gJ l il bl,gJ l il bl,if_neg jp]
   by_cases e1:(j-1)/4=i
   . rw [if_pos e1]
     by_cases e2:j=b
     . rw [if_pos e2];exact oY hd
     . rw [if_neg e2,if_neg (show¬j=i by omega)];exact hm j j0 jl e1
   . rw [if_neg e1]
     by_cases e2:j=b
     . subst e2;exact absurd be e1
     . rw [if_neg e2]
       by_cases e3:j=i
       . subst e3;rw [if_pos rfl];exact h.2 b b0 bl be j0
       . rw [if_neg e3];exact h.1 j j0 jl e1
 . rw [fO]at jl
   rw [gJ l il bl,gJ l il bl,be,if_neg (show¬i=b by omega),if_pos rfl,if_neg (show¬j=b by omega),if_neg (show¬j=i by omega)]
   have:=h.1 j j0 jl (by omega)
   rwa [jp]at this
theorem heap_min{l:List Hd}(h:jP l): ∀j,j<l.length->hle (l.getD 0 default) (l.getD j default):=by
 intro j
 induction j using Nat.strongRecOn with
 | _ j ih=>
   intro hj
   by_cases e:j=0
   . subst e;exact qs _
   . exact iU (ih ((j-1)/4) (by omega) (by omega)) (h j (by omega) hj)
theorem js(l m:List Hd){j:Nat}(hj:j<l.length):(l++m).getD j default=l.getD j default:=by
 rw [xW,xW,yJ hj]
theorem si{l:List Hd}(h:jP l)(x:Hd):ot (l++[x]) l.length:=by
 refine⟨fun j j0 jl jp=>?_,fun j j0 jl jp _=>?_⟩
 . simp at jl
   rw [js l _ (by omega),js l _ (by omega)]
   exact h j j0 (by omega)
 . simp at jl;omega
theorem xo{l:List Hd}(h:jP l){i:Nat}{x:Hd}(hx:hle x (l.getD i default)):ot (l.set i x) i:=by
 refine⟨fun j j0 jl jp=>?_,fun j j0 jl jp i0=>?_⟩
 . rw [yd]at jl
   rw [iZ,iZ,if_neg (show¬(i=j/\_)from fun e=>jp e.1.symm)]
   split
   . rename_i e;have:=h j j0 jl;rw [<-e.1]at this;exact iU hx this
   . exact h j j0 jl
 . rw [yd]at jl
   rw [iZ,iZ,if_neg (show¬(i=j/\_) by omega),if_neg (show¬(i=(i-1)/4/\_) by omega)]
   have k1:=h i i0 (by omega)
   have k2:=h j j0 jl
   rw [jp]at k2
   exact iU k1 k2
theorem getD_take(l:List Hd){n j:Nat}(hj:j<n):(l.take n).getD j default=l.getD j default:=by
 rw [xW,xW,zb hj]
theorem heap_pop{l:List Hd}(h:jP l)(hl:0<l.length):pA ((sw l 0 (l.length-1)).take (l.length-1)) 0:=by
 refine⟨fun j j0 jl jp=>?_,fun j j0 jl jp i0=>?_⟩
 . rw [yB,fO]at jl
   rw [getD_take _ (by omega),getD_take _ (by omega),gJ l (by omega) (by omega),gJ l (by omega) (by omega),if_neg (by omega),if_neg (by omega),if_neg (by omega),if_neg (by omega)]
   exact h j j0 (by omega)
 . omega
def fJ(l:List Hd)(K:Nat->Option Int):Prop:=(l.map Hd.id).Nodup/\ ∀v k,K v=some k↔⟨v,k⟩∈l
def ca(K:Nat->Option Int)(v:Nat)(x:Option Int):Nat->Option Int:=fun u=>if u=v then x else K u
theorem fJ.perm{l m:List Hd}{K:Nat->Option Int}(h:fJ l K)(p:m.Perm l):fJ m K:=
 ⟨(p.map Hd.id).nodup_iff.2 h.1,fun v k=>by rw [h.2];exact p.mem_iff.symm⟩
theorem fJ.free{l:List Hd}{K:Nat->Option Int}(h:fJ l K){v:Nat}(hv:K v=none):v∉l.map Hd.id:=by
 intro hm
 obtain⟨x,hx,rfl⟩:=List.mem_map.1 hm
 have:=(h.2 x.id x.key).2 hx
 rw [hv]at this;cases this
theorem fJ.push{l:List Hd}{K:Nat->Option Int}(h:fJ l K){v:Nat}(hv:K v=none)(k:Int):fJ (l++[⟨v,k⟩]) (ca K v (some k)):=by
 refine⟨?_,fun u x=>?_⟩
 . rw [yg,yc]
   exact⟨h.1,by simp,fun a ha b hb e=>h.free hv (by simp at hb;subst hb;subst e;exact ha)⟩
 . unfold ca
   by_cases e:u=v
   . subst e
     rw [if_pos rfl,zg]
     constructor
     . intro e;cases e;exact .inr (by simp)
     . rintro(h1|h1)
       . have:=(h.2 u x).2 h1;rw [hv]at this;cases this
       . simp at h1;rw [h1]
   . rw [if_neg e,zg,h.2]
     constructor
     . exact .inl
     . rintro(h1|h1)
       . exact h1
       . simp at h1;exact absurd h1.1 e
theorem nodup_idx{l:List Hd}(h:(l.map Hd.id).Nodup){i j:Nat}(hi:i<l.length)(hj:j<l.length)(e:(l.getD i default).id=(l.getD j default).id):i=j:=by
 refine mJ h (x:=(l.getD i default).id) (by simp [hi]) ?_
 rw [e];simp [hj]
theorem fJ.lower{l:List Hd}{K:Nat->Option Int}(h:fJ l K){i:Nat}(hi:i<l.length)(k:Int):fJ (l.set i ⟨(l.getD i default).id,k⟩) (ca K (l.getD i default).id (some k)):=by
 have e1:(l.set i ⟨(l.getD i default).id,k⟩).map Hd.id=l.map Hd.id:=by
  rw [List.map_set]
  refine yx fun j=>?_
  rw [yp]
  split
  . rename_i e;subst e;simp [hi]
  . rfl
 refine⟨by rw [e1];exact h.1,fun u x=>?_⟩
 unfold ca
 by_cases e:u=(l.getD i default).id
 . rw [if_pos e]
   constructor
   . intro e2;cases e2;subst e;exact List.mem_iff_getElem?.2 ⟨i,by simp [hi]⟩
   . intro hm
     obtain⟨j,hj⟩:=List.mem_iff_getElem?.1 hm
     rw [yp]at hj
     split at hj
     . cases hj;rfl
     . rename_i hne
       have hjl:=(List.getElem?_eq_some_iff.1 hj).1
       exact absurd (nodup_idx h.1 hi hjl (by rw [<-e];simp [xW,hj])) hne
 . rw [if_neg e,h.2]
   constructor
   . intro hm
     obtain⟨j,hj⟩:=List.mem_iff_getElem?.1 hm
     refine List.mem_iff_getElem?.2 ⟨j,?_⟩
     rw [yp,if_neg ?_]
     . exact hj
     . rintro rfl
       apply e
       simp [xW,hj]
   . intro hm
     obtain⟨j,hj⟩:=List.mem_iff_getElem?.1 hm
     rw [yp]at hj
     split at hj
     . cases hj;exact absurd rfl e
     . exact yj hj
theorem fJ.pop{l:List Hd}{K:Nat->Option Int}(h:fJ l K)(hl:0<l.length):fJ ((sw l 0 (l.length-1)).take (l.length-1)) (ca K (l.getD 0 default).id none):=by
 have p:=pb l (i:=0) (k:=l.length-1) hl (by omega)
 have h2:=h.perm p
 have e:sw l 0 (l.length-1)=(sw l 0 (l.length-1)).take (l.length-1)++[l.getD 0 default]:=by
  refine yx fun j=>?_
  have hs:=gJ l (i:=0) (k:=l.length-1) hl (by omega) (l.length-1)
  rw [if_pos rfl]at hs
  have sl:=fO l 0 (l.length-1)
  by_cases hj:j<l.length-1
  . rw [yJ (by simp [sl];omega),zb hj]
  . by_cases hj2:j=l.length-1
    . subst hj2
      rw [yH (by simp [sl])]
      rw [<-hs]
      simp [sl,xW,show l.length-1<l.length by omega]
    . rw [yP (by omega),yP (by simp [sl];omega)]
 generalize(sw l 0 (l.length-1)).take (l.length-1)=m at*
 generalize l.getD 0 default=x at*
 rw [e]at h2
 obtain⟨n1,n2⟩:=h2
 rw [yg,yc]at n1
 refine⟨n1.1,fun v k=>?_⟩
 unfold ca
 by_cases ev:v=x.id
 . rw [if_pos ev]
   constructor
   . intro h;cases h
   . intro hm
     exact absurd ev (n1.2.2 v (ye (f:=Hd.id) hm) x.id (by simp))
 . rw [if_neg ev,n2,zg]
   constructor
   . rintro(h|h)
     . exact h
     . simp at h;exact absurd (by rw [<-h]) ev
   . exact .inl
theorem fJ.at{l:List Hd}{K:Nat->Option Int}(h:fJ l K){i:Nat}(hi:i<l.length):K (l.getD i default).id=some (l.getD i default).key:=
 (h.2 _ _).2 (List.mem_iff_getElem?.2 ⟨i,by simp [hi]⟩)
theorem fJ.idx{l:List Hd}{K:Nat->Option Int}(h:fJ l K){v:Nat}{k:Int}(hv:K v=some k): ∃i,i<l.length/\l.getD i default=⟨v,k⟩:=by
 obtain⟨i,hi⟩:=List.mem_iff_getElem?.1 ((h.2 v k).1 hv)
 exact⟨i,(List.getElem?_eq_some_iff.1 hi).1,by simp [xW,hi]⟩
theorem fJ.nil{K:Nat->Option Int}(h:fJ [] K)(v:Nat):K v=none:=by
 cases hk:K v with
 |none=>rfl
 |some k=>have:=(h.2 v k).1 hk;cases this
theorem cont_nil:fJ [] (fun _=>none):=⟨.nil,fun v k=>by constructor<;>intro h<;>cases h⟩
end Go.Ab

end
section
namespace Go.Ab
def FAR:Nat:=72057594037927936
def cK:Nat:=2147483647
theorem dX:FAR=72057594037927936:=rfl
theorem kC:cK=2147483647:=rfl
inductive Wk(B:List Arc)(s:Nat):Nat->Nat->Prop where
 |nil:Wk B s s 0
 |snoc {w:Nat} {a:Arc}:a∈B->Wk B s a.s w->Wk B s a.t (w+a.w)
theorem Wk.snoc'{B:List Arc}{s u v w x:Nat}(h:Wk B s u w){a:Arc}(ha:a∈B)(hs:a.s=u)(ht:a.t=v)(hx:x=w+a.w):Wk B s v x:=by
 subst hs ht hx;exact .snoc ha h
def IsD(B:List Arc)(s v x:Nat):Prop:=(x<FAR/\Wk B s v x/\ ∀w,Wk B s v w->x<=w)\/(x=FAR/\ ∀w,¬Wk B s v w)
theorem IsD.uniq{B:List Arc}{s v x y:Nat}(h:IsD B s v x)(k:IsD B s v y):x=y:=by
 rcases h with⟨a,b,c⟩|⟨a,b⟩<;>rcases k with⟨d,e,f⟩|⟨d,e⟩
 . have:=c _ e;have:=f _ b;omega
 . exact absurd b (e _)
 . exact absurd e (b _)
 . omega
theorem IsD.le{B:List Arc}{s v x:Nat}(h:IsD B s v x):x<=FAR:=by
 rcases h with⟨a,_,_⟩|⟨a,_⟩<;>omega
theorem IsD.self{B:List Arc}{s x:Nat}(h:IsD B s s x):x=0:=by
 rcases h with⟨a,b,c⟩|⟨a,b⟩
 . have:=c 0 .nil;omega
 . exact absurd .nil (b 0)
theorem IsD.arc{B:List Arc}{s x y:Nat}{a:Arc}(ha:a∈B)(hx:IsD B s a.s x)(hy:IsD B s a.t y):y<=x+a.w:=by
 rcases hx with⟨a1,b1,c1⟩|⟨a1,b1⟩
 . rcases hy with⟨a2,b2,c2⟩|⟨a2,b2⟩
   . exact c2 _ (.snoc ha b1)
   . exact absurd (.snoc ha b1) (b2 _)
 . have:=hy.le;omega
theorem nN: ∀(N:Nat) (l:List Nat),l.Nodup->(∀x∈l,x<N)->l.length<=N
 | 0,l,_,h=>by
   cases l with
   |nil=>simp
   |cons x l=>have:=h x (by simp);omega
 | N+1,l,hn,h=>by
   have h1:=nN N (l.erase N) (hn.erase N) (fun x hx=>by
    have h2:=h x (List.mem_of_mem_erase hx)
    have h3:x≠N:=fun e=>by subst e;exact(List.Nodup.not_mem_erase hn) hx
    omega)
   have h2:=List.length_erase (a:=N) (l:=l)
   split at h2<;>omega

section
variable{B:List Arc}{s N:Nat}{O:List Nat}{D:Nat->Nat}{K:Nat->Option Int}{ex:Arc->Prop}
structure Dj(B:List Arc)(s N:Nat)(O:List Nat)(D:Nat->Nat)(K:Nat->Option Int)(ex:Arc->Prop):Prop where
 i1: ∀v,v∈O->K v=none
 i2: ∀v∈O,Wk B s v (D v)/\(∀w,Wk B s v w->D v<=w)/\D v<=O.length*cK
 i2f: ∀v,v∉O->D v=FAR
 i3: ∀v k,K v=some k->v<N/\ ∃n:Nat,k=n/\Wk B s v n/\n<=O.length*cK
 i4: ∀a∈B,a.s∈O-> ¬ex a->a.t∈O\/ ∃k:Int,K a.t=some k/\k<=D a.s+a.w
 i5:s∈O\/K s=some 0
 nd:O.Nodup
 lt: ∀v∈O,v<N
theorem Dj.len(d:Dj B s N O D K ex):O.length<=N:=nN N O d.nd d.lt
theorem dj_init(hs:s<N):Dj B s N [] (fun _=>FAR) (ca (fun _=>none) s (some 0)) (fun _=>False):=by
 refine⟨fun v h=>(by cases h),fun v h=>(by cases h),fun v _=>rfl,fun v k h=>?_,fun a _ h=>(by cases h),.inr (by simp [ca]),.nil,fun v h=>(by cases h)⟩
 unfold ca at h
 split at h
 . rename_i e;cases h;subst e;exact⟨hs,0,rfl,.nil,by simp⟩
 . cases h
theorem Dj.front(d:Dj B s N O D K (fun _=>False)){x w:Nat}(h:Wk B s x w):x∈O\/ ∃y k,K y=some k/\k<=(w:Int):=by
 induction h with
 |nil=>exact d.i5.imp (fun h=>h) (fun h=>⟨_,_,h,by omega⟩)
 | @snoc w a ha hw ih=>
   rcases ih with ih|⟨y,k,h1,h2⟩
   . rcases d.i4 a ha ih (fun h=>h)with h|⟨k,h1,h2⟩
     . exact .inl h
     . have:=(d.i2 _ ih).2.1 _ hw
       exact .inr ⟨_,k,h1,by omega⟩
   . exact .inr ⟨y,k,h1,by omega⟩
theorem Dj.pop(d:Dj B s N O D K (fun _=>False)){v:Nat}{n:Nat}(hv:K v=some (n:Int))(hm: ∀u k,K u=some k->(n:Int)<=k):
 Dj B s N (O++[v]) (fun u=>if u=v then n else D u) (ca K v none) (fun a=>a.s=v)/\v∉O/\v<N/\n<=O.length*cK:=by
 have hvO:v∉O:=fun h=>by have:=d.i1 v h;rw [hv]at this;cases this
 obtain⟨hvN,n',e,hw,hb⟩:=d.i3 v _ hv
 have e:n=n':=by omega
 subst e
 have hl:(O++[v]).length*cK=O.length*cK+cK:=by rw [yh,zk,Nat.succ_mul]
 refine⟨⟨fun u hu=>?_,fun u hu=>?_,fun u hu=>?_,fun u k hu=>?_,fun a ha hs hx=>?_,?_,?_,fun u hu=>?_⟩,hvO,hvN,hb⟩
 . unfold ca
   by_cases e:u=v
   . rw [if_pos e]
   . rw [if_neg e];simp [e]at hu;exact d.i1 u hu
 . rw [hl]
   by_cases e:u=v
   . subst e
     simp only [if_true]
     refine⟨hw,fun w h=>?_,by omega⟩
     rcases d.front h with h1|⟨y,k,h1,h2⟩
     . exact absurd h1 hvO
     . have:=hm y k h1;omega
   . simp only [e,if_false]
     simp [e]at hu
     obtain⟨a,b,c⟩:=d.i2 u hu
     exact⟨a,b,by omega⟩
 . simp at hu
   simp only [hu.2,if_false]
   exact d.i2f u hu.1
 . unfold ca at hu
   split at hu
   . cases hu
   . obtain⟨a,m,b,c,e⟩:=d.i3 u k hu
     exact⟨a,m,b,c,by rw [hl];omega⟩
 . simp [hx]at hs
   have hx': ¬a.s=v:=hx
   simp only [hx',if_false]
   rcases d.i4 a ha hs (fun h=>h)with h|⟨k,h1,h2⟩
   . exact .inl (by simp [h])
   . by_cases e:a.t=v
     . exact .inl (by simp [e])
     . exact .inr ⟨k,by unfold ca;rw [if_neg e];exact h1,h2⟩
 . rcases d.i5 with h|h
   . exact .inl (by simp [h])
   . by_cases e:s=v
     . exact .inl (by simp [e])
     . exact .inr (by unfold ca;rw [if_neg e];exact h)
 . rw [yc]
   exact⟨d.nd,by simp,fun a ha b hb e=>hvO (by simp at hb;subst hb;subst e;exact ha)⟩
 . rcases List.mem_append.1 hu with h|h
   . exact d.lt u h
   . simp at h;subst h;exact hvN
def gO(O:List Nat)(K:Nat->Option Int)(u:Nat)(x:Int):Nat->Option Int:=if u∈O then K else match K u with
 |some k=>if k<=x then K else ca K u (some x)
 |none=>ca K u (some x)
theorem Dj.relaxed (d:Dj B s N O D K ex) {ex':Arc->Prop} {a:Arc} (ha:a∈B) (hs:a.s∈O) (hN:a.t<N) (hb:D a.s+a.w<=O.length*cK) (hx: ∀b∈B,¬ex' b-> ¬ex b\/b=a):
 Dj B s N O D (gO O K a.t ((D a.s+a.w:Nat):Int)) ex':=by
 have main: ∀K',(∀v,v∈O->K' v=K v)->(∀v k,K' v=some k->K v=some k\/(v=a.t/\k=((D a.s+a.w:Nat):Int)))->(∀v k,K v=some k-> ∃k',K' v=some k'/\k'<=k)->(a.t∈O\/ ∃k:Int,K' a.t=some k/\k<=D a.s+a.w)->Dj B s N O D K' ex':=by
  intro K' c1 c2 c3 c4
  refine⟨fun v hv=>by rw [c1 v hv];exact d.i1 v hv,d.i2,d.i2f,fun v k hk=>?_,fun b hb hbs hbx=>?_,?_,d.nd,d.lt⟩
  . rcases c2 v k hk with h|⟨rfl,rfl⟩
    . exact d.i3 v k h
    . exact⟨hN,_,rfl,.snoc ha (d.i2 _ hs).1,hb⟩
  . rcases hx b hb hbx with h|rfl
    . rcases d.i4 b hb hbs h with h|⟨k,h1,h2⟩
      . exact .inl h
      . obtain⟨k',h3,h4⟩:=c3 _ _ h1
        exact .inr ⟨k',h3,by omega⟩
    . exact c4
  . rcases d.i5 with h|h
    . exact .inl h
    . obtain⟨k',h3,h4⟩:=c3 _ _ h
      rcases c2 _ _ h3 with h5|⟨h5,h6⟩
      . rw [h]at h5;exact .inr (by rw [h3,h5])
      . exact .inr (by rw [h3];congr 1;omega)
 unfold gO
 by_cases h:a.t∈O
 . rw [if_pos h];exact main K (fun _ _=>rfl) (fun _ _ h=>.inl h) (fun v k h=>⟨k,h,by omega⟩) (.inl h)
 . rw [if_neg h]
   have upd:(∀k,K a.t=some k->((D a.s+a.w:Nat):Int)<=k)->Dj B s N O D (ca K a.t (some ((D a.s+a.w:Nat):Int))) ex':=fun hk=>by
    refine main _ (fun v hv=>?_) (fun v k hv=>?_) (fun v k hv=>?_) (.inr ⟨((D a.s+a.w:Nat):Int),by unfold ca;rw [if_pos rfl],by omega⟩)
    . unfold ca;rw [if_neg (fun e=>h (by subst e;exact hv))]
    . unfold ca at hv
      split at hv
      . rename_i e;cases hv;exact .inr ⟨e,rfl⟩
      . exact .inl hv
    . unfold ca
      by_cases e:v=a.t
      . rw [if_pos e];subst e;exact⟨_,rfl,hk k hv⟩
      . rw [if_neg e];exact⟨k,hv,by omega⟩
   cases hk:K a.t with
   |none=>simp only [];exact upd (fun k e=>by rw [hk]at e;cases e)
   | some k=>
     simp only []
     split
     . rename_i hle
       exact main K (fun _ _=>rfl) (fun _ _ h=>.inl h) (fun v k h=>⟨k,h,by omega⟩) (.inr ⟨k,hk,by omega⟩)
     . rename_i hle
       exact upd (fun k' e=>by rw [hk]at e;cases e;omega)
theorem Dj.done(d:Dj B s N O D K (fun _=>False))(hK: ∀v,K v=none)(hN:N<=12)(v:Nat):IsD B s v (D v):=by
 have hl:=Nat.mul_le_mul_right cK (yn d.len hN)
 have:=dX
 have:=kC
 by_cases h:v∈O
 . obtain⟨a,b,c⟩:=d.i2 v h
   exact .inl ⟨by omega,a,b⟩
 . refine .inr ⟨d.i2f v h,fun w hw=>?_⟩
   rcases d.front hw with h1|⟨y,k,h1,_⟩
   . exact h h1
   . rw [hK]at h1;cases h1
end
theorem im{A:List Arc}{f:Arc->Nat}{j v i:Nat}:i∈outs A f j v↔i<j/\f (A.getD i default)=v:=by
 unfold outs
 rw [List.mem_filter,List.mem_range,decide_eq_true_eq]
def cP(a:Arc):Arc:=⟨a.t,a.s,a.w⟩

structure Ls(B:List Arc)(s N:Nat)(l:Nat->Nat):Prop where
 le: ∀v,l v<=FAR
 wk: ∀v,l v=FAR\/Wk B s v (l v)
 s0:l s=0
def cJ(l:Nat->Nat)(v x:Nat):Nat->Nat:=fun u=>if u=v then x else l u
theorem Ls.step{B:List Arc}{s N:Nat}{l:Nat->Nat}(h:Ls B s N l){a:Arc}(ha:a∈B)(h1:l a.s<FAR)(h2:l a.s+a.w<l a.t):Ls B s N (cJ l a.t (l a.s+a.w)):=by
 have hw:=(h.wk a.s).resolve_left (by omega)
 refine⟨fun v=>?_,fun v=>?_,?_⟩
 . unfold cJ;split
   . have:=h.le a.t;omega
   . exact h.le v
 . unfold cJ;split
   . rename_i e;subst e;exact .inr (.snoc ha hw)
   . exact h.wk v
 . unfold cJ;split
   . rename_i e;rw [<-e,h.s0]at h2;omega
   . exact h.s0
theorem Ls.le_wk{B:List Arc}{s N:Nat}{l:Nat->Nat}(h:Ls B s N l)(hd: ∀a∈B,l a.s<FAR->l a.t<=l a.s+a.w){v w:Nat}(k:Wk B s v w):l v<=w:=by
 induction k with
 |nil=>rw [h.s0];omega
 | @snoc w a ha hw ih=>
   by_cases e:l a.s<FAR
   . have:=hd a ha e;omega
   . have:=h.le a.t;omega
theorem Ls.isD{B:List Arc}{s N v x:Nat}{l:Nat->Nat}(h:Ls B s N l)(hd: ∀a∈B,l a.s<FAR->l a.t<=l a.s+a.w)(k:IsD B s v x):l v=x:=by
 rcases k with⟨a,b,c⟩|⟨a,b⟩
 . have h1:=h.le_wk hd b
   rcases h.wk v with h2|h2
   . omega
   . have:=c _ h2;omega
 . rcases h.wk v with h2|h2
   . omega
   . exact absurd h2 (b _)
def sumTo(l:Nat->Nat):Nat->Nat
 |0=>0
 |n+1=>sumTo l n+l n
theorem sum_upd{l:Nat->Nat}{v x:Nat}: ∀{N:Nat},v<N->sumTo (cJ l v x) N+l v=sumTo l N+x
 |0,h=>by omega
 | N +1,h=>by
   have none: ∀{M:Nat},M<=v->sumTo (cJ l v x) M=sumTo l M:=by
    intro M
    induction M with
    |zero=>intro _;rfl
    |succ M ih=>intro hM;simp only [sumTo];rw [ih (by omega)];unfold cJ;rw [if_neg (by omega)]
   simp only [sumTo]
   by_cases e:v=N
   . subst e;rw [none (yu _)];unfold cJ;rw [if_pos rfl];omega
   . have:=sum_upd (l:=l) (v:=v) (x:=x) (N:=N) (by omega)
     have:cJ l v x N=l N:=by unfold cJ;rw [if_neg (by omega)]
     omega
end Go.Ab

end
section
namespace Go.Ab
def EM(l:List (Int×Value×Nat)):List (Value×Value×Nat):=l.map fun p=>(.int .i64 p.1,p.2.1,p.2.2)
def dl(f:Int->Option Value)(x:Int)(v:Option Value):Int->Option Value:=fun y=>if y=x then v else f y
def c8(es:List (Value×Value×Nat))(c:Nat)(f:Int->Option Value):Prop:=
 ∃l,es=EM l/\(l.map yf).Nodup/\(l.map fun p=>p.2.2).Nodup/\(∀p∈l,p.2.2<c)/\ ∀x v,f x=some v↔ ∃n,(x,v,n)∈l
theorem oq{x y:Int}:cQ (.int .i64 x) (.int .i64 y)=some (decide (x=y)):=by
 show some (jm x y)=_
 congr 1
 rw [me]
theorem uH{l:List (Int×Value×Nat)}(hn:(l.map yf).Nodup){x:Int}{v:Value}{n:Nat}(h:(x,v,n)∈l):cB (.int .i64 x) (EM l)=some (some (v,n)):=by
 induction l with
 |nil=>cases h
 | cons p l ih=>
   obtain⟨y,w,m⟩:=p
   show(match cQ (.int .i64 x) (.int .i64 y)with|none=>none|some true=>some (some (w,m))|some false=>cB (.int .i64 x) (EM l))=_
   rw [oq]
   rw [yi,yE]at hn
   by_cases e:x=y
   . subst e
     rw [decide_eq_true rfl]
     simp only []
     rcases List.mem_cons.1 h with h|h
     . cases h;rfl
     . exact absurd (ye (f:=yf) h) hn.1
   . rw [decide_eq_false e]
     simp only []
     rcases List.mem_cons.1 h with h|h
     . cases h;exact absurd rfl e
     . exact ih hn.2 h
theorem find_miss{l:List (Int×Value×Nat)}{x:Int}(h:x∉l.map yf):cB (.int .i64 x) (EM l)=some none:=by
 induction l with
 |nil=>rfl
 | cons p l ih=>
   obtain⟨y,w,m⟩:=p
   show(match cQ (.int .i64 x) (.int .i64 y)with|none=>none|some true=>some (some (w,m))|some false=>cB (.int .i64 x) (EM l))=_
   rw [oq]
   simp only [yi,yD,not_or]at h
   rw [decide_eq_false h.1]
   exact ih h.2
theorem oS{l:List (Int×Value×Nat)}(hn:(l.map yf).Nodup){x:Int}{v:Value}{n:Nat}(h:(x,v,n)∈l):
 ∃a b,l=a++(x,v,n)::b/\(∀w,jW (.int .i64 x) w (EM l)=EM (a++(x,w,n)::b))/\jk (.int .i64 x) (EM l)=EM (a++b):=by
 induction l with
 |nil=>cases h
 | cons p l ih=>
   obtain⟨y,w,m⟩:=p
   rw [yi,yE]at hn
   by_cases e:x=y
   . subst e
     rcases List.mem_cons.1 h with h|h
     . cases h
       refine⟨[],l,rfl,fun u=>?_,?_⟩
       . show(match cQ (.int .i64 x) (.int .i64 x)with|some true=>_|_=>_)=_
         rw [oq,decide_eq_true rfl];rfl
       . show(match cQ (.int .i64 x) (.int .i64 x)with|some true=>_|_=>_)=_
         rw [oq,decide_eq_true rfl];rfl
     . exact absurd (ye (f:=yf) h) hn.1
   . rcases List.mem_cons.1 h with h|h
     . cases h;exact absurd rfl e
     . obtain⟨a,b,h1,h2,h3⟩:=ih hn.2 h
       refine⟨(y,w,m)::a,b,by rw [h1];rfl,fun u=>?_,?_⟩
       . show(match cQ (.int .i64 x) (.int .i64 y)with|some true=>_|_=>(Value.int .i64 y,w,m)::jW (.int .i64 x) u (EM l))=_
         rw [oq,decide_eq_false e,h2];rfl
       . show(match cQ (.int .i64 x) (.int .i64 y)with|some true=>_|_=>(Value.int .i64 y,w,m)::jk (.int .i64 x) (EM l))=_
         rw [oq,decide_eq_false e,h3];rfl
theorem pQ{a b:List (Int×Value×Nat)}{x:Int}{v w:Value}{n:Nat}(hn:((a++(x,v,n)::b).map fun p=>p.2.2).Nodup):gb n w (EM (a++(x,v,n)::b))=some (EM (a++(x,w,n)::b)):=by
 induction a with
 | nil=>
   show(bif yC n n then _ else _)=_
   rw [yT];rfl
 | cons p a ih=>
   obtain⟨y,u,m⟩:=p
   rw [List.cons_append,yi,yE]at hn
   have:yC m n=false:=by
    cases hb:yC m n with
    |false=>rfl
    | true=>
      have e:=yO hb
      exact absurd (List.mem_map.2 ⟨(x,v,n),by simp,e.symm⟩) hn.1
   show(bif yC m n then _ else match gb n w (EM (a++(x,v,n)::b))with|none=>none|some l'=>some ((Value.int .i64 y,u,m)::l'))=_
   rw [this,ih hn.2];rfl
theorem po{a b:List (Int×Value×Nat)}{x:Int}{v:Value}{n:Nat}:(a++(x,v,n)::b).map yf=a.map yf++x::b.map yf:=by simp
section
variable{es:List (Value×Value×Nat)}{c:Nat}{f:Int->Option Value}{x:Int}
theorem qq:c8 [] 0 (fun _=>none):=⟨[],rfl,.nil,.nil,fun _ h=>(by cases h),fun x v=>⟨fun h=>(by cases h),fun⟨_,h⟩=>(by cases h)⟩⟩
theorem c8.hit(h:c8 es c f){v:Value}(hf:f x=some v): ∃n,cB (.int .i64 x) es=some (some (v,n)):=by
 obtain⟨l,rfl,h1,h2,h3,h4⟩:=h
 obtain⟨n,hn⟩:=(h4 x v).1 hf
 exact⟨n,uH h1 hn⟩
theorem c8.miss(h:c8 es c f)(hf:f x=none):cB (.int .i64 x) es=some none:=by
 obtain⟨l,rfl,h1,h2,h3,h4⟩:=h
 refine find_miss fun hm=>?_
 obtain⟨⟨y,v,n⟩,hp,rfl⟩:=List.mem_map.1 hm
 have:=(h4 y v).2 ⟨n,hp⟩
 rw [hf]at this;cases this
theorem qf{a b:List (Int×Value×Nat)}{v w:Value}{n:Nat}(h1:((a++(x,v,n)::b).map yf).Nodup)(h2:((a++(x,v,n)::b).map fun p=>p.2.2).Nodup)(h3: ∀p∈a++(x,v,n)::b,p.2.2<c)
 (h4: ∀x' v',f x'=some v'↔ ∃n',(x',v',n')∈a++(x,v,n)::b):c8 (EM (a++(x,w,n)::b)) c (dl f x (some w)):=by
 have k1:=h1
 rw [po,yc]at k1
 refine⟨_,rfl,by rw [po];rwa [po]at h1,by rw [yg,yi]at h2⊢;exact h2,fun p hp=>?_,fun y u=>?_⟩
 . rcases List.mem_append.1 hp with hp|hp
   . exact h3 p (by simp [hp])
   . rcases List.mem_cons.1 hp with rfl|hp
     . exact h3 (x,v,n) (by simp)
     . exact h3 p (by simp [hp])
 . unfold dl
   by_cases e:y=x
   . subst e
     rw [if_pos rfl]
     constructor
     . intro e;cases e;exact⟨n,by simp⟩
     . rintro⟨m,hm⟩
       rcases List.mem_append.1 hm with hm|hm
       . exact absurd rfl (k1.2.2 y (ye (f:=yf) hm) y (by simp))
       . rcases List.mem_cons.1 hm with hm|hm
         . cases hm;rfl
         . exact absurd (ye (f:=yf) hm) (List.nodup_cons.1 k1.2.1).1
   . rw [if_neg e,h4]
     constructor<;>rintro⟨m,hm⟩<;>refine⟨m,?_⟩
     . rcases List.mem_append.1 hm with hm|hm
       . simp [hm]
       . rcases List.mem_cons.1 hm with hm|hm
         . cases hm;exact absurd rfl e
         . simp [hm]
     . rcases List.mem_append.1 hm with hm|hm
       . simp [hm]
       . rcases List.mem_cons.1 hm with hm|hm
         . cases hm;exact absurd rfl e
         . simp [hm]
theorem qr{l:List (Int×Value×Nat)}{w:Value}(h1:(l.map yf).Nodup)(h2:(l.map fun p=>p.2.2).Nodup)(h3: ∀p∈l,p.2.2<c)(h4: ∀x' v',f x'=some v'↔ ∃n',(x',v',n')∈l)(hf:f x=none):
 c8 (EM (l++[(x,w,c)])) (c+1) (dl f x (some w)):=by
 have hx:x∉l.map yf:=fun hm=>by
  obtain⟨⟨y,v,n⟩,hp,rfl⟩:=List.mem_map.1 hm
  have:=(h4 y v).2 ⟨n,hp⟩
  rw [hf]at this;cases this
 refine⟨_,rfl,?_,?_,fun p hp=>?_,fun y u=>?_⟩
 . rw [yg,yc]
   exact⟨h1,by simp,fun a ha b hb e=>hx (by simp at hb;subst hb;subst e;exact ha)⟩
 . rw [yg,yc]
   refine⟨h2,by simp,fun a ha b hb e=>?_⟩
   simp at hb;subst hb
   obtain⟨p,hp,rfl⟩:=List.mem_map.1 ha
   have:=h3 p hp;omega
 . rcases List.mem_append.1 hp with hp|hp
   . have:=h3 p hp;omega
   . simp at hp;subst hp;exact Nat.lt_succ_self c
 . unfold dl
   by_cases e:y=x
   . subst e
     rw [if_pos rfl]
     constructor
     . intro e;cases e;exact⟨c,by simp⟩
     . rintro⟨m,hm⟩
       rcases List.mem_append.1 hm with hm|hm
       . exact absurd (ye (f:=yf) hm) hx
       . simp at hm;rw [hm.1]
   . rw [if_neg e,h4]
     constructor<;>rintro⟨m,hm⟩<;>refine⟨m,?_⟩
     . simp [hm]
     . rcases List.mem_append.1 hm with hm|hm
       . exact hm
       . simp at hm;exact absurd hm.1 e
theorem em_app(l:List (Int×Value×Nat))(v:Value)(n:Nat):EM l++[(.int .i64 x,v,n)]=EM (l++[(x,v,n)]):=by unfold EM;rw [yg];rfl
theorem c8.put(h:c8 es c f)(v:Value): ∃es' c',(match cB (.int .i64 x) es with|none=>none|some (some _)=>some (jW (.int .i64 x) v es,c)|some none=>some (es++[(.int .i64 x,v,c)],c+1))=some (es',c')/\c8 es' c' (dl f x (some v)):=by
 cases hf:f x with
 | none=>
   rw [h.miss hf]
   obtain⟨l,rfl,h1,h2,h3,h4⟩:=h
   exact⟨_,_,rfl,by rw [em_app];exact qr h1 h2 h3 h4 hf⟩
 | some w=>
   obtain⟨n,e⟩:=h.hit hf
   rw [e]
   obtain⟨l,rfl,h1,h2,h3,h4⟩:=h
   obtain⟨m,hm⟩:=(h4 x w).1 hf
   obtain⟨a,b,rfl,k1,_⟩:=oS h1 hm
   exact⟨_,_,rfl,by rw [k1];exact qf h1 h2 h3 h4⟩
theorem del_miss{l:List (Int×Value×Nat)}(h:x∉l.map yf):jk (.int .i64 x) (EM l)=EM l:=by
 induction l with
 |nil=>rfl
 | cons p l ih=>
   obtain⟨y,w,m⟩:=p
   simp only [yi,yD,not_or]at h
   show(match cQ (.int .i64 x) (.int .i64 y)with|some true=>_|_=>(Value.int .i64 y,w,m)::jk (.int .i64 x) (EM l))=_
   rw [oq,decide_eq_false h.1,ih h.2];rfl
theorem c8.del(h:c8 es c f):c8 (jk (.int .i64 x) es) c (dl f x none):=by
 obtain⟨l,rfl,h1,h2,h3,h4⟩:=h
 cases hf:f x with
 | none=>
   have hx:x∉l.map yf:=fun hm=>by
    obtain⟨⟨y,v,n⟩,hp,rfl⟩:=List.mem_map.1 hm
    have:=(h4 y v).2 ⟨n,hp⟩
    rw [hf]at this;cases this
   rw [del_miss hx]
   refine⟨l,rfl,h1,h2,h3,fun y u=>?_⟩
   unfold dl
   by_cases e:y=x
   . subst e;rw [if_pos rfl];exact⟨fun h=>(by cases h),fun⟨n,hn⟩=>absurd (ye (f:=yf) hn) hx⟩
   . rw [if_neg e];exact h4 y u
 | some w=>
   obtain⟨m,hm⟩:=(h4 x w).1 hf
   obtain⟨a,b,rfl,_,k2⟩:=oS h1 hm
   rw [k2]
   have k1:=h1
   rw [po,yc]at k1
   obtain⟨p1,p2,p3⟩:=k1
   rw [yE]at p2
   refine⟨a++b,rfl,?_,?_,fun p hp=>h3 p ?_,fun y u=>?_⟩
   . rw [yg,yc]
     exact⟨p1,p2.2,fun u hu v hv=>p3 u hu v (by simp [hv])⟩
   . rw [yg,yi,yc]at h2
     rw [yg,yc]
     exact⟨h2.1,(List.nodup_cons.1 h2.2.1).2,fun u hu v hv=>h2.2.2 u hu v (List.mem_cons_of_mem _ hv)⟩
   . rcases List.mem_append.1 hp with hp|hp<;>simp [hp]
   . unfold dl
     by_cases e:y=x
     . subst e
       rw [if_pos rfl]
       refine⟨fun h=>(by cases h),fun⟨n,hn⟩=>?_⟩
       rcases List.mem_append.1 hn with hn|hn
       . exact absurd rfl (p3 y (ye (f:=yf) hn) y (by simp))
       . exact absurd (ye (f:=yf) hn) p2.1
     . rw [if_neg e,h4]
       constructor<;>rintro⟨m,hm⟩<;>refine⟨m,?_⟩
       . rcases List.mem_append.1 hm with hm|hm
         . simp [hm]
         . rcases List.mem_cons.1 hm with hm|hm
           . cases hm;exact absurd rfl e
           . simp [hm]
       . rcases List.mem_append.1 hm with hm|hm<;>simp [hm]
theorem c8.ent(h:c8 es c f)(z:Value): ∃es1 c1 n,(match cB (.int .i64 x) es with|none=>none|some (some (v,n))=>some (jW (.int .i64 x) v es,c,v,n)|some none=>some (es++[(.int .i64 x,z,c)],c+1,z,c))=some (es1,c1,(f x).getD z,n)/\c8 es1 c1 (dl f x (some ((f x).getD z)))/\
 ∀w,∃es2,gb n w es1=some es2/\c8 es2 c1 (dl f x (some w)):=by
 cases hf:f x with
 | none=>
   rw [h.miss hf]
   obtain⟨l,rfl,h1,h2,h3,h4⟩:=h
   have k:=qr (w:=z) h1 h2 h3 h4 hf
   refine⟨_,_,_,rfl,by rw [em_app];exact k,fun w=>?_⟩
   rw [em_app]
   obtain⟨l',e,q1,q2,q3,q4⟩:=k
   have hn:((l++(x,z,c)::[]).map fun p=>p.2.2).Nodup:=by
    rw [yg,yc]
    refine⟨h2,by simp,fun a ha b hb e=>?_⟩
    simp at hb;subst hb
    obtain⟨p,hp,rfl⟩:=List.mem_map.1 ha
    have:=h3 p hp;omega
   exact⟨_,pQ hn,qr h1 h2 h3 h4 hf⟩
 | some v=>
   obtain⟨l,rfl,h1,h2,h3,h4⟩:=h
   obtain⟨m,hm⟩:=(h4 x v).1 hf
   rw [uH h1 hm]
   obtain⟨a,b,rfl,k1,_⟩:=oS h1 hm
   refine⟨_,_,_,rfl,by rw [k1];exact qf h1 h2 h3 h4,fun w=>?_⟩
   rw [k1]
   exact⟨_,pQ (by simpa using h2),qf h1 h2 h3 h4⟩
end

section
variable{M:Nat->Prop}{h0 h:Hp}{L:List (Nat×Ob)}{G:List GL}{E:Env}{t kt el:TypeId}{b c:Nat}{es:List (Value×Value×Nat)}{f:Int->Option Value}{x:Int}
theorem oV(hk:E.und kt=some (.int .i64)):cu E kt (.int .i64 x)=true:=by simp only [cu,hk];rfl
theorem og(hu:E.und t=some (.map kt el))(hk:E.und kt=some (.int .i64)){z:Value}(hz:E.zeroV el=some z)(hg:h.get b=some (.map es c))(m:c8 es c f):
 dA E h t (.map (some b)) (.int .i64 x) true=some (.tuple #[(f x).getD z,.bool (f x).isSome]):=by
 simp only [dA,hu,oV hk,cond_true,hg]
 cases hf:f x with
 |none=>rw [m.miss hf];simp [hz]
 |some v=>obtain⟨n,e⟩:=m.hit hf;rw [e];simp
theorem pz(hu:E.und t=some (.map kt el))(hk:E.und kt=some (.int .i64)){z:Value}(hz:E.zeroV el=some z)(hg:h.get b=some (.map es c))(m:c8 es c f):
 dA E h t (.map (some b)) (.int .i64 x) false=some ((f x).getD z):=by
 simp only [dA,hu,oV hk,cond_true,hg]
 cases hf:f x with
 |none=>rw [m.miss hf];simp [hz]
 |some v=>obtain⟨n,e⟩:=m.hit hf;rw [e];simp
theorem lH{x:Blk}{es':List (Value×Value×Nat)}{c':Nat}(hg:h.get b=some x):(h.put b (.map es' c')).get b=some (.map es' c'):=by rw [Hp.get_put,if_pos ⟨rfl,by rw [hg];rfl⟩]
theorem St.mputI(S:St M h0 h L G){i:Nat}(hi:L[i]? =some (b,.map es c))(hu:E.und t=some (.map kt el))(hk:E.und kt=some (.int .i64))(m:c8 es c f)(v:Value):
 ∃h',iV E h t (.map (some b)) (.int .i64 x) v=some h'/\Mo (· =b) h h'/\ ∃es' c',c8 es' c' (dl f x (some v))/\St M h0 h' (L.set i (b,.map es' c')) G:=by
 have hg:h.get b=some (.map es c):=(S.own _ (yj hi)).2
 obtain⟨es',c',h1,h2⟩:=m.put (x:=x) v
 refine⟨h.put b (.map es' c'),?_,(Mo.refl (M:=(· =b)) S.ok).put (.inr rfl) _,es',c',h2,S.put hi (o':=.map es' c') (lH hg)⟩
 simp only [iV,jc,hu,oV hk,cond_true,hg]
 revert h1
 cases cB (.int .i64 x) es with
 |none=>intro h1;cases h1
 | some r=>cases r with
   |none=>intro h1;cases h1;rfl
   |some _=>intro h1;cases h1;rfl
theorem St.mdelI(S:St M h0 h L G){i:Nat}(hi:L[i]? =some (b,.map es c))(hu:E.und t=some (.map kt el))(hk:E.und kt=some (.int .i64))(m:c8 es c f):
 ∃h',jX E h t (.map (some b)) (.int .i64 x)=some h'/\Mo (· =b) h h'/\ ∃es' c',c8 es' c' (dl f x none)/\St M h0 h' (L.set i (b,.map es' c')) G:=by
 have hg:h.get b=some (.map es c):=(S.own _ (yj hi)).2
 refine⟨h.put b (.map (jk (.int .i64 x) es) c),?_,(Mo.refl (M:=(· =b)) S.ok).put (.inr rfl) _,_,c,m.del (x:=x),S.put hi (o':=.map _ c) (lH hg)⟩
 simp only [jX,jc,hu,oV hk,cond_true,hg]
 cases hf:f x with
 |none=>rw [m.miss hf]
 |some v=>obtain⟨n,e⟩:=m.hit hf;rw [e]
theorem St.mentI(S:St M h0 h L G){i:Nat}(hi:L[i]? =some (b,.map es c))(hu:E.und t=some (.map kt el))(hk:E.und kt=some (.int .i64)){z:Value}(hz:E.zeroV el=some z)(m:c8 es c f):
 ∃ h' n,iq E h t (.map (some b)) (.int .i64 x)=some (h',.tuple #[(f x).getD z,.int .i64 (zy n)])/\Mo (· =b) h h'/\ ∃es' c',c8 es' c' (dl f x (some ((f x).getD z)))/\St M h0 h' (L.set i (b,.map es' c')) G/\
   ∀w,∃es2,gb n w es'=some es2/\c8 es2 c' (dl f x (some w)):=by
 have hg:h.get b=some (.map es c):=(S.own _ (yj hi)).2
 obtain⟨es',c',n,h1,h2,h3⟩:=m.ent (x:=x) z
 refine⟨h.put b (.map es' c'),n,?_,(Mo.refl (M:=(· =b)) S.ok).put (.inr rfl) _,es',c',h2,S.put hi (o':=.map es' c') (lH hg),h3⟩
 simp only [iq,jc,hu,oV hk,cond_true,hg,hz]
 revert h1
 cases cB (.int .i64 x) es with
 |none=>intro h1;cases h1
 | some r=>cases r with
   |none=>intro h1;simp only [Option.some.injEq,Prod.mk.injEq]at h1;obtain⟨a,b,c,d⟩:=h1;subst a b d;rw [<-c]
   |some q=>obtain⟨q1,q2⟩:=q;intro h1;simp only [Option.some.injEq,Prod.mk.injEq]at h1;obtain⟨a,b,c,d⟩:=h1;subst a b d;rw [<-c]
theorem St.mstoreI(S:St M h0 h L G){i n:Nat}(hi:L[i]? =some (b,.map es c)){w:Value}{es2:List (Value×Value×Nat)}(hs:gb n w es=some es2):
 ∃h',jG h (.map (some b)) (.int .i64 (zy n)) w=some h'/\Mo (· =b) h h'/\St M h0 h' (L.set i (b,.map es2 c)) G:=by
 have hg:h.get b=some (.map es c):=(S.own _ (yj hi)).2
 refine⟨h.put b (.map es2 c),?_,(Mo.refl (M:=(· =b)) S.ok).put (.inr rfl) _,S.put hi (o':=.map es2 c) (lH hg)⟩
 simp only [jG,hg,fT,hs]
end
end Go.Ab

end
section
namespace Go.Ab
def jo(x:Hd):List Value:=[.int .i64 x.id,.int .i64 x.key]
theorem iX(x:Hd):(jo x).length=2:=rfl
structure df(cs:List Value)(cap:Nat)(l:List Hd):Prop where
 len:cs.length=cap*2
 le:l.length<=cap
 at0: ∀i,i<l.length->cs[i*2]? =some (.int .i64 (l.getD i default).id)/\cs[i*2+1]? =some (.int .i64 (l.getD i default).key)
def iT(f:Int->Option Value)(l:List Hd):Prop:=(∀i,i<l.length->f (l.getD i default).id=some (.int .i64 i))/\ ∀x v,f x=some v-> ∃i,i<l.length/\x=(l.getD i default).id
section
variable{h:Hp}{bl cap i:Nat}{cs:List Value}{l:List Hd}{md:Nat}
theorem df.ld0(c:df cs cap l)(r:Row h bl cs md)(hi:i<l.length):h.load bl (i*2) 1=some [.int .i64 (l.getD i default).id]:=r.load1 (c.at0 i hi).1
theorem df.ld1(c:df cs cap l)(r:Row h bl cs md)(hi:i<l.length):h.load bl (i*2+1) 1=some [.int .i64 (l.getD i default).key]:=r.load1 (c.at0 i hi).2
theorem df.ld2(c:df cs cap l)(r:Row h bl cs md)(hi:i<l.length):h.load bl (i*2) 2=some [.int .i64 (l.getD i default).id,.int .i64 (l.getD i default).key]:=by
 have h0:=(c.at0 i hi).1
 have h1:=(c.at0 i hi).2
 have l1:=(List.getElem?_eq_some_iff.1 h1).1
 rw [r.load (by omega)]
 congr 1
 rw [y8 (by omega),y8 (by omega)]
 simp only [yI,yX]
 rw [(List.getElem?_eq_some_iff.1 h0).2,(List.getElem?_eq_some_iff.1 h1).2]
theorem p9{x y:Value}(hi:i*2+2<=cs.length)(j:Nat):(lay cs (i*2) [x,y])[j]? =if j=i*2 then some x else if j=i*2+1 then some y else cs[j]? :=by
 rw [iH (by simpa using hi)]
 simp only [y9,yU]
 by_cases h1:j=i*2
 . subst h1;simp
 . by_cases h2:j=i*2+1
   . subst h2;simp
   . rw [if_neg h1,if_neg h2,if_neg (by omega)]
theorem df.set(c:df cs cap l)(hi:i<l.length)(x:Hd):df (lay cs (i*2) [.int .i64 x.id,.int .i64 x.key]) cap (l.set i x):=by
 have hl:=c.len
 have hle:=c.le
 have hb:i*2+2<=cs.length:=by omega
 refine⟨by rw [lq (by simpa using hb)];exact hl,by rw [yd];exact hle,fun j hj=>?_⟩
 rw [yd]at hj
 rw [p9 hb,p9 hb,iZ]
 by_cases e:i=j
 . subst e;simp [hi]
 . rw [if_neg (by omega),if_neg (by omega),if_neg (by omega),if_neg (by omega),if_neg (by omega)]
   exact c.at0 j hj
theorem df.setKey(c:df cs cap l)(hi:i<l.length)(k:Int):df (lay cs (i*2+1) [.int .i64 k]) cap (l.set i ⟨(l.getD i default).id,k⟩):=by
 have hl:=c.len
 have hle:=c.le
 have e:lay cs (i*2+1) [.int .i64 k]=lay cs (i*2) [.int .i64 (l.getD i default).id,.int .i64 k]:=by
  refine yx fun j=>?_
  rw [p9 (by omega),iH (by simp;omega)]
  simp only [y9,yU]
  by_cases h1:j=i*2
  . subst h1;rw [if_neg (by omega),if_pos rfl];exact(c.at0 i hi).1
  . by_cases h2:j=i*2+1
    . subst h2;rw [if_pos (by omega)];simp
    . rw [if_neg (by omega),if_neg h1,if_neg h2]
 rw [e]
 exact c.set hi ⟨(l.getD i default).id,k⟩
end
theorem set_sw(l:List Hd)(i k:Nat):(l.set i (l.getD k default)).set k (l.getD i default)=sw l i k:=rfl
theorem iT.inj{f:Int->Option Value}{l:List Hd}(h:iT f l){i j:Nat}(hi:i<l.length)(hj:j<l.length)(e:(l.getD i default).id=(l.getD j default).id):i=j:=by
 have h1:=h.1 i hi
 have h2:=h.1 j hj
 rw [e,h2]at h1
 injection h1 with h1
 injection h1 with _ h1
 omega
theorem iT.swap{f:Int->Option Value}{l:List Hd}(h:iT f l){i k:Nat}(hi:i<l.length)(hk:k<l.length):
 iT (dl (dl f ((sw l i k).getD i default).id (some (.int .i64 i))) ((sw l i k).getD k default).id (some (.int .i64 k))) (sw l i k):=by
 have ei:=gJ l hi hk i
 have ek:=gJ l hi hk k
 rw [if_pos rfl]at ek
 refine⟨fun j hj=>?_,fun x v hx=>?_⟩
 . rw [fO]at hj
   have ej:=gJ l hi hk j
   unfold dl
   by_cases e1:j=k
   . subst e1;rw [if_pos rfl]
   . rw [if_neg e1]at ej
     by_cases e2:j=i
     . subst e2
       rw [if_neg,if_pos rfl]
       rw [if_neg e1,if_pos rfl]at ei
       rw [ei,ek]
       intro e
       exact e1 (h.inj hk hi (by omega)).symm
     . rw [if_neg e2]at ej
       rw [if_neg,if_neg]
       . rw [ej];exact h.1 j hj
       . rw [ej,ei]
         intro e
         split at e
         . exact e2 (h.inj hj hi (by omega))
         . rename_i e3;rw [if_pos rfl]at e;exact e1 (h.inj hj hk (by omega))
       . rw [ej,ek]
         intro e
         exact e2 (h.inj hj hi (by omega))
 . unfold dl at hx
   by_cases e1:x=((sw l i k).getD k default).id
   . exact⟨k,by rw [fO];exact hk,e1⟩
   . rw [if_neg e1]at hx
     by_cases e2:x=((sw l i k).getD i default).id
     . exact⟨i,by rw [fO];exact hi,e2⟩
     . rw [if_neg e2]at hx
       obtain⟨j,hj,e⟩:=h.2 x v hx
       refine⟨j,by rw [fO];exact hj,?_⟩
       have ej:=gJ l hi hk j
       by_cases e3:j=k
       . subst e3
         exfalso
         rw [e]at e2
         by_cases e4:i=j
         . subst e4;rw [if_pos rfl]at ei;exact e2 (by rw [ei])
         . rw [if_neg e4,if_pos rfl]at ei;exact e2 (by rw [ei])
       . by_cases e4:j=i
         . subst e4;exfalso;rw [ek]at e1;exact e1 e
         . rw [if_neg e3,if_neg e4]at ej;rw [ej];exact e
structure ef(h:Hp)(bh bl bm cap:Nat)(n:Int)(l:List Hd):Prop where
 row:Row h bh [.slice (some ⟨bl,0,some 2⟩) l.length cap,.map (some bm),.int .i64 n] 1
 ex: ∃cs es c f,Row h bl cs 1/\h.get bm=some (.map es c)/\df cs cap l/\c8 es c f/\iT f l
 ne:bh≠bl/\bh≠bm/\bl≠bm
theorem ef.mo{M:Nat->Prop}{h h':Hp}{bh bl bm cap:Nat}{n:Int}{l:List Hd}(r:ef h bh bl bm cap n l)(g:Mo M h h')(h1: ¬M bh)(h2: ¬M bl)(h3: ¬M bm):ef h' bh bl bm cap n l:=by
 obtain⟨cs,es,c,f,a,b,d⟩:=r.ex
 exact⟨g.has (o:=.row _ 1) r.row h1,⟨cs,es,c,f,g.has (o:=.row _ 1) a h2,g.has (o:=.map es c) b h3,d⟩,r.ne⟩
theorem ef.mo1{M:Nat->Prop}{h h':Hp}{bh bl bm cap:Nat}{n:Int}{l:List Hd}(r:ef h bh bl bm cap n l)(g:Mo M h h')(hm: ∀c,c=bh\/c=bl\/c=bm-> ¬M c):ef h' bh bl bm cap n l:=
 r.mo g (hm _ (.inl rfl)) (hm _ (.inr (.inl rfl))) (hm _ (.inr (.inr rfl)))
theorem ef.lt{h:Hp}(ok:h.t.Sized h.n){bh bl bm cap:Nat}{n:Int}{l:List Hd}(r:ef h bh bl bm cap n l): ∀c,c=bh\/c=bl\/c=bm->c<h.n:=by
 obtain⟨cs,es,c,f,a,b,d⟩:=r.ex
 rintro c (rfl|rfl|rfl)
 . exact r.row.lt ok
 . exact a.lt ok
 . exact gm ok b
theorem ef.gr{h h':Hp}{bh bl bm cap:Nat}{n:Int}{l:List Hd}(r:ef h bh bl bm cap n l)(g:Gr h h'):ef h' bh bl bm cap n l:=r.mo (M:=NoM) g.fr (fun h=>h) (fun h=>h) (fun h=>h)
theorem St.init2{M:Nat->Prop}{h:Hp}(ok:h.t.Sized h.n){b1 b2:Nat}{o1 o2:Ob}(h1:Has h b1 o1)(h2:Has h b2 o2)(hne:b1≠b2)(m1:M b1)(m2:M b2):St M h h [(b1,o1),(b2,o2)] []:=by
 refine⟨Mo.refl ok,fun p hp=>?_,fun _ h=>(by cases h),by simp [keys,hne]⟩
 simp only [yD,yN,or_false]at hp
 rcases hp with rfl|rfl
 . exact⟨.inr m1,h1⟩
 . exact⟨.inr m2,h2⟩
theorem St.init3{M:Nat->Prop}{h:Hp}(ok:h.t.Sized h.n){b1 b2 b3:Nat}{o1 o2 o3:Ob}(h1:Has h b1 o1)(h2:Has h b2 o2)(h3:Has h b3 o3)(n1:b1≠b2)(n2:b1≠b3)(n3:b2≠b3)(m1:M b1)(m2:M b2)(m3:M b3):St M h h [(b1,o1),(b2,o2),(b3,o3)] []:=by
 refine⟨Mo.refl ok,fun p hp=>?_,fun _ h=>(by cases h),by simp [keys,n1,n2,n3]⟩
 simp only [yD,yN,or_false]at hp
 rcases hp with rfl|rfl|rfl
 . exact⟨.inr m1,h1⟩
 . exact⟨.inr m2,h2⟩
 . exact⟨.inr m3,h3⟩
end Go.Ab

end
section
namespace Go.Ab
open Go.Proofs
set_option maxRecDepth 10000
open Tryz in
def Tryz.FFh1175:=aj a1<|aj s1<|aj z1<|aj n1<|aj u2<|aj a2<|aj s2<|aj z2<|aj i2<|aj u3<|aj a3<|aj s3<|aj z3<|aj i3<|aj u4<|aj a4<|aj s4<|aj z4<|aj n4<|aj u5<|aj a5<|aj s5<|aj z5<|aj i5<|aj u6<|aj a6<|aj s6<|aj z6<|aj i6<|aj a7<|aj s7<|aj z7<|aj i7<|aj n7<|aj p7<|aj ff7<|aj d7<|aj a8<|aj s8<|aj z8<|aj i8<|aj n8<|aj p8<|aj ff8<|aj d8<|aj u40<|aj a40<|aj s40<|aj z40<|aj q40<|n40
open Tryz in
def Tryz.FFh1171:=aj a1<|aj s1<|aj z1<|aj n1<|aj u2<|aj a2<|aj s2<|aj z2<|aj i2<|aj u3<|aj a3<|aj s3<|aj z3<|aj i3<|aj u4<|aj a4<|aj s4<|aj z4<|aj n4<|aj u40<|aj a40<|aj s40<|aj z40<|aj q40<|aj n40<|aj u153<|aj a153<|aj s153<|aj z153<|aj n153<|aj u246<|aj a246<|aj s246<|aj z246<|aj q246<|aj n246<|aj a248<|aj s248<|aj z248<|aj i248<|aj n248<|aj p248<|aj ff248<|aj d248<|aj a255<|aj s255<|aj z255<|aj i255<|aj n255<|aj p255<|aj ff255<|aj d255<|aj u269<|aj a269<|aj s269<|aj z269<|aj q269<|aj i269<|n269
open Tryz in
def Tryz.FFh1158:=aj a1<|aj s1<|aj z1<|aj n1<|aj u2<|aj a2<|aj s2<|aj z2<|aj i2<|aj u3<|aj a3<|aj s3<|aj z3<|aj i3<|aj u153<|aj a153<|aj s153<|aj z153<|aj n153<|aj u246<|aj a246<|aj s246<|aj z246<|aj q246<|aj n246<|aj a248<|aj s248<|aj z248<|aj i248<|aj n248<|aj p248<|aj ff248<|aj d248<|aj a255<|aj s255<|aj z255<|aj i255<|aj n255<|aj p255<|aj ff255<|aj d255<|aj u269<|aj a269<|aj s269<|aj z269<|aj q269<|aj i269<|n269
def jB(a b:Int):Int:=if a<b then-1 else if b<a then 1 else 0
theorem uS{h0:Hp}(ok:h0.t.Sized h0.n){a:Int}:bC xX 102 [.int .i64 a] h0 (.bool false):=by
 have S:=Si ok
 refine ac (n:=6) (rs:=[.tmp 2]) rfl Tryz.e102 rfl rfl rfl (lbt rfl) ?_
 simp only [BS,LB,ab,Nat.reduceLT,Nat.reduceEqDiff]
 exact S.gr
theorem nanI_ok{h0:Hp}(ok:h0.t.Sized h0.n){a:Int}:bC xX 179 [.int .i64 a] h0 (.bool false):=by
 have S:=Si ok
 refine ac (n:=6) (rs:=[.tmp 2]) rfl Tryz.e179 rfl rfl rfl (lbt rfl) ?_
 simp only [BS,LB,ab,Nat.reduceLT,Nat.reduceEqDiff]
 exact S.gr
theorem vf{h0:Hp}(ok:h0.t.Sized h0.n){a b:Int}:bC xX 49 [.int .i64 a,.int .i64 b] h0 (.int .i64 (jB a b)):=by
 have S:=Si ok
 unfold jB
 refine ac (n:=20) (rs:=[.tmp 4]) rfl Tryz.e49 rfl rfl rfl (lbt rfl) ?_
 simp only [BS,LB,Nat.reduceLT,Nat.reduceEqDiff]
 refine ar (uS S.ok) ?_;intro h g;replace S:=S.call g;clear g
 simp only [BS,LB,Nat.reduceLT,Nat.reduceEqDiff]
 refine ar (uS S.ok) ?_;intro h g;replace S:=S.call g;clear g
 by_cases h1:a<b
 . simp only [BS,LB,ab,Nat.reduceLT,Nat.reduceEqDiff,h1]
   exact S.gr
 . by_cases h2:b<a
   . simp only [BS,LB,ab,Nat.reduceLT,Nat.reduceEqDiff,h1,h2]
     exact S.gr
   . simp only [BS,LB,ab,Nat.reduceLT,Nat.reduceEqDiff,h1,h2]
     exact S.gr
theorem cmpInt_ok{h0:Hp}(ok:h0.t.Sized h0.n){a b:Int}:bC xX 176 [.int .i64 a,.int .i64 b] h0 (.int .i64 (jB a b)):=by
 have S:=Si ok
 unfold jB
 refine ac (n:=20) (rs:=[.tmp 4]) rfl Tryz.e176 rfl rfl rfl (lbt rfl) ?_
 simp only [BS,LB,Nat.reduceLT,Nat.reduceEqDiff]
 refine ar (nanI_ok S.ok) ?_;intro h g;replace S:=S.call g;clear g
 simp only [BS,LB,Nat.reduceLT,Nat.reduceEqDiff]
 refine ar (nanI_ok S.ok) ?_;intro h g;replace S:=S.call g;clear g
 by_cases h1:a<b
 . simp only [BS,LB,ab,Nat.reduceLT,Nat.reduceEqDiff,h1]
   exact S.gr
 . by_cases h2:b<a
   . simp only [BS,LB,ab,Nat.reduceLT,Nat.reduceEqDiff,h1,h2]
     exact S.gr
   . simp only [BS,LB,ab,Nat.reduceLT,Nat.reduceEqDiff,h1,h2]
     exact S.gr
theorem or2_ok{h0:Hp}(ok:h0.t.Sized h0.n){v:Value}{a b:Int}(hv:aA h0 1 (encI .i64) v [a,b]):bC xX 175 [v] h0 (.int .i64 (if a=0 then b else a)):=by
 have S:=Si ok
 obtain⟨c0,o0,i0,l0⟩:=hv.ix (kd:=.i64) (dJ .i64) (i:=0) (by simp)
 obtain⟨c1,o1,i1,l1⟩:=hv.ix (kd:=.i64) (dJ .i64) (i:=1) (by simp)
 have i0':idxS (some 1) v (.int .i64 0)=some (.pointer (some ⟨c0,o0,none⟩)):=i0
 have i1':idxS (some 1) v (.int .i64 1)=some (.pointer (some ⟨c1,o1,none⟩)):=i1
 replace l0:h0.load c0 o0 1=some [.int .i64 a]:=l0
 replace l1:h0.load c1 o1 1=some [.int .i64 b]:=l1
 have w1:au .i64 1=1:=rfl
 have w2:au .i64 2=2:=rfl
 refine ac (n:=18) (rs:=[.tmp 2]) rfl Tryz.e175 rfl rfl rfl (lbt rfl) ?_
 simp only [BS,LB,Nat.reduceLT,Nat.reduceEqDiff,Nat.reduceAdd,yb,Tryz.FFh1175,hv.lenq]
 rw [bS]
 by_cases ha:a=0
 . simp only [BS,LB,Nat.reduceLT,Nat.reduceEqDiff,Int.reduceLT,Int.reduceAdd,Tryz.FFh1175,i0',l0,ha,w1]
   rw [bS]
   by_cases hb:b=0
   . simp only [BS,LB,Nat.reduceLT,Nat.reduceEqDiff,Int.reduceLT,Int.reduceAdd,Tryz.FFh1175,i1',l1,hb,w2]
     rw [bS]
     simp only [BS,LB,ab,Nat.reduceLT,Nat.reduceEqDiff,Int.reduceLT]
     exact S.gr
   . simp only [BS,LB,ab,Nat.reduceLT,Nat.reduceEqDiff,Int.reduceLT,Tryz.FFh1175,i1',l1,hb]
     exact S.gr
 . simp only [BS,LB,ab,Nat.reduceLT,Nat.reduceEqDiff,Int.reduceLT,Tryz.FFh1175,i0',l0,ha]
   exact S.gr
theorem ud{h0:Hp}(ok:h0.t.Sized h0.n){bh bl bm cap:Nat}{n:Int}{l:List Hd}(R:ef h0 bh bl bm cap n l){i k:Nat}(hi:i<l.length)(hk:k<l.length):
 bC xX 171 [ptrTo bh,.int .i64 i,.int .i64 k] h0 (.bool (decide (hlt (l.getD i default) (l.getD k default)))):=by
 have S:=Si ok
 obtain⟨cs,es,c,f,hc,hm,C,MI,IF⟩:=R.ex
 have r0:=R.row.load1 (o:=0) rfl
 have i0:=C.ld0 hc hi
 have i1:=C.ld1 hc hi
 have k0:=C.ld0 hc hk
 have k1:=C.ld1 hc hk
 refine ac (n:=44) (rs:=[.tmp 6]) rfl Tryz.e171 rfl rfl rfl (lbt rfl) ?_
 simp only [BS]
 refine aC (aH rfl) (q:=17179869184) (ps:=[(16,32),(16,28),(16,24),(16,20)]) (by kernel_rfl) ?_
 simp only [BS,LB,cls,Nat.reduceLT,Nat.reduceEqDiff,Nat.reduceAdd,Nat.reducePow,Nat.reduceDiv,Nat.reduceMod,Nat.reduceLeDiff,Tryz.FFh1171,r0,hi,hk,i1,k1]
 refine cE (vf S.ok) ?_
 intro h g;replace S:=S.call g
 replace r0:=g.load r0;replace i0:=g.load i0;replace i1:=g.load i1;replace k0:=g.load k0;replace k1:=g.load k1
 have e1:leaves _ _ bl=true:=ay g (hc.lt ok)
 have e2:leaves _ _ bh=true:=ay g (R.row.lt ok)
 clear g
 simp only [BS,LB,cls,Nat.reduceLT,Nat.reduceEqDiff,Nat.reduceAdd,Nat.reducePow,Nat.reduceDiv,Nat.reduceMod,Nat.reduceLeDiff,Tryz.FFh1171,r0,hi,hk,i0,k0]
 refine cE (cmpInt_ok S.ok) ?_
 intro h2 g;replace S:=S.call g
 replace r0:=g.load r0;replace i0:=g.load i0;replace i1:=g.load i1;replace k0:=g.load k0;replace k1:=g.load k1
 clear g
 simp only [BS,LB,cls,Nat.reduceLT,Nat.reduceEqDiff,Nat.reduceAdd,Nat.reducePow,Nat.reduceDiv,Nat.reduceMod,Nat.reduceLeDiff]
 refine dt (bL (by exact yw) (by exact yL) (by decide) (by rfl)) S ?_;clear S;intro h bs S n_bs e_bs;simp only [LC,aU,bI,ag,Nat.reduceMul,Nat.reduceAdd,yF,yz,ym,yZ]at S
 simp only [BS,LB,cls,Nat.reduceLT,Nat.reduceEqDiff,Nat.reduceAdd,Nat.reducePow,Nat.reduceDiv,Nat.reduceMod,Nat.reduceLeDiff]
 have hv:aA h 1 (encI .i64) (.slice (some ⟨bs,0,none⟩) 2 2) [jB (l.getD i default).key (l.getD k default).key,jB (l.getD i default).id (l.getD k default).id]:=.inr ⟨bs,0,none,2,rfl,yu _,S.lds (b:=bs) (o:=0) (n:=2*1) m0 (lbt rfl)⟩
 refine cE (or2_ok S.ok hv) ?_
 intro h3 g;replace S:=S.call g;clear g
 simp only [BS,LB,cls,ab,Nat.reduceLT,Nat.reduceEqDiff,Nat.reduceAdd,Nat.reducePow,Nat.reduceDiv,Nat.reduceMod,Nat.reduceLeDiff]
 refine⟨by simp only [aX,bu,aS,bz,aT,ne_eq,not_false_eq_true,bF,bJ,bA,aY,bK,cD,aK,Nat.reduceLT,Nat.reduceEqDiff,reduceIte,zq,ah,aP e1,aP e2,aN e1,aN e2],?_⟩
 have e3:decide ((if jB (l.getD i default).key (l.getD k default).key=0 then jB (l.getD i default).id (l.getD k default).id else jB (l.getD i default).key (l.getD k default).key)<0)=decide (hlt (l.getD i default) (l.getD k default)):=by
  congr 1
  rw [eq_iff_iff]
  unfold jB hlt
  repeat' split
  all_goals omega
 exact⟨by rw [e3],S.gr⟩
theorem pq{h0:Hp}(ok:h0.t.Sized h0.n){bh bl bm cap:Nat}{n:Int}{l:List Hd}(R:ef h0 bh bl bm cap n l){i k:Nat}(hi:i<l.length)(hk:k<l.length):
 Ret xX 158 [ptrTo bh,.int .i64 i,.int .i64 k] h0 fun v h'=>Mo (fun c=>c=bl\/c=bm) h0 h'/\ef h' bh bl bm cap n (sw l i k):=by
 obtain⟨cs,es,c,f,hc,hm,C,MI,IF⟩:=R.ex
 have S:=St.init2 (M:=fun c=>c=bl\/c=bm) ok (o1:=.row cs 1) (o2:=.map es c) hc hm R.ne.2.2 (.inl rfl) (.inr rfl)
 have nM: ¬(bh=bl\/bh=bm):=fun h=>h.elim R.ne.1 R.ne.2.1
 have r0:=R.row.load1 (o:=0) rfl
 have r1:=R.row.load1 (o:=1) rfl
 have i2:=C.ld2 hc hi
 have k2:=C.ld2 hc hk
 have clen:=C.len
 have cle:=C.le
 refine ac (n:=62) (rs:=[]) rfl Tryz.e158 rfl rfl rfl (lbt rfl) ?_
 simp only [BS]
 refine aC (aH rfl) (q:=0) (ps:=[]) (by kernel_rfl) ?_
 simp only [BS,LB,cls,Nat.reduceLT,Nat.reduceEqDiff,Nat.reduceAdd,Nat.reducePow,Nat.reduceDiv,Nat.reduceMod,Nat.reduceLeDiff,Tryz.FFh1158,r0,hi,hk,i2,k2]
 refine c5 (S.store (i:=0) rfl Tryz.s255 (by intro x e;cases e) rfl rfl (by omega) ono) ?_
 clear S;rintro h ⟨S,mo⟩;clear mo
 have C1:=C.set hi (l.getD k default)
 simp only [LC,ag]at S
 have r0':=S.old r0 nM
 simp only [BS,LB,cls,Nat.reduceLT,Nat.reduceEqDiff,Nat.reduceAdd,Nat.reducePow,Nat.reduceDiv,Nat.reduceMod,Nat.reduceLeDiff,Tryz.FFh1158,hk]
 generalize lay cs (i*2) _=cs1 at S C1
 have c1l:=C1.len
 refine c5 (S.store (i:=0) (off:=k*2) rfl Tryz.s255 (by intro x e;cases e) rfl rfl (by omega) ono) ?_
 clear S;rintro h ⟨S,mo⟩;clear mo
 have C2:=C1.set (i:=k) (by rw [yd];exact hk) (l.getD i default)
 simp only [LC,ag]at S
 generalize lay cs1 (k*2) _=cs2 at S C2
 rw [set_sw]at C2
 clear r0'
 have r0':=S.old r0 nM
 have r1':=S.old r1 nM
 have hi2:i<(sw l i k).length:=by rw [fO];exact hi
 have hk2:k<(sw l i k).length:=by rw [fO];exact hk
 have ai:=C2.ld0 (S.row m0) hi2
 have ak:=C2.ld0 (S.row m0) hk2
 simp only [BS,LB,Nat.reduceAdd]
 refine aC (aH rfl) (q:=0) (ps:=[]) (by kernel_rfl) ?_
 simp only [BS,LB,cls,Nat.reduceLT,Nat.reduceEqDiff,Nat.reduceAdd,Nat.reducePow,Nat.reduceDiv,Nat.reduceMod,Nat.reduceLeDiff,Tryz.FFh1158,r0',r1',hi,hk,ai,ak]
 refine dn_v (P:=fun h' v=> ∃n es' c',v=.tuple #[(f ((sw l i k).getD i default).id).getD (.int .i64 0),.int .i64 (zy n)]/\St (fun c=>c=bl\/c=bm) h0 h' [(bl,.row cs2 1),(bm,.map es' c')] []/\ ∀w,∃es2,gb n w es'=some es2/\c8 es2 c' (dl f ((sw l i k).getD i default).id (some w))) ?_ ?_
 . obtain⟨h',n,e1,_,es',c',_,e4,e5⟩:=S.mentI (i:=1) (x:=(((sw l i k).getD i default).id:Int)) rfl yG yQ (z:=.int .i64 0) (by kernel_rfl) MI
   exact⟨h',_,e1,n,es',c',rfl,e4,e5⟩
 clear S ai ak r0' r1'
 rintro h v ⟨s1,es1,c1,rfl,S,hst⟩
 obtain⟨es2,est,MI2⟩:=hst (.int .i64 i)
 simp only [BS,LB,cls,Nat.reduceLT,Nat.reduceEqDiff,Nat.reduceAdd,Nat.reducePow,Nat.reduceDiv,Nat.reduceMod,Nat.reduceLeDiff,zm]
 refine c5 (S.mstoreI (i:=1) rfl est) ?_
 clear S;rintro h ⟨mo,S⟩;clear mo
 simp only [LC]at S
 simp only [BS,LB,cls,Nat.reduceLT,Nat.reduceEqDiff,Nat.reduceAdd,Nat.reducePow,Nat.reduceDiv,Nat.reduceMod,Nat.reduceLeDiff]
 refine dn_v (P:=fun h' v=> ∃n es' c',v=.tuple #[(dl f ((sw l i k).getD i default).id (some (.int .i64 i)) ((sw l i k).getD k default).id).getD (.int .i64 0),.int .i64 (zy n)]/\St (fun c=>c=bl\/c=bm) h0 h' [(bl,.row cs2 1),(bm,.map es' c')] []/\ ∀w,∃es2,gb n w es'=some es2/\c8 es2 c' (dl (dl f ((sw l i k).getD i default).id (some (.int .i64 i))) ((sw l i k).getD k default).id (some w))) ?_ ?_
 . obtain⟨h',n,e1,_,es',c',_,e4,e5⟩:=S.mentI (i:=1) (x:=(((sw l i k).getD k default).id:Int)) rfl yG yQ (z:=.int .i64 0) (by kernel_rfl) MI2
   exact⟨h',_,e1,n,es',c',rfl,e4,e5⟩
 clear S
 rintro h v ⟨s2,es3,c3,rfl,S,hst2⟩
 obtain⟨es4,est2,MI4⟩:=hst2 (.int .i64 k)
 simp only [BS,LB,cls,Nat.reduceLT,Nat.reduceEqDiff,Nat.reduceAdd,Nat.reducePow,Nat.reduceDiv,Nat.reduceMod,Nat.reduceLeDiff,zm]
 refine c5 (S.mstoreI (i:=1) rfl est2) ?_
 clear S;rintro h ⟨mo,S⟩;clear mo
 simp only [LC]at S
 simp only [BS,LB,Nat.reduceAdd]
 refine⟨S.fr,?_,⟨cs2,es4,c3,_,S.row m0,(S.own _ m1).2,C2,MI4,IF.swap hi hk⟩,R.ne⟩
 rw [fO]
 exact S.fr.has (o:=.row _ 1) R.row nM
theorem up_ok{h0:Hp}(ok:h0.t.Sized h0.n){bh bl bm cap:Nat}{n:Int}{l:List Hd}(R:ef h0 bh bl bm cap n l){i:Nat}(hi:i<l.length)(hl:l.length<1000000)(U:ot l i):
 Ret xX 156 [ptrTo bh,.int .i64 i] h0 fun v h'=>Mo (fun c=>c=bl\/c=bm) h0 h'/\ ∃l',ef h' bh bl bm cap n l'/\l'.Perm l/\jP l':=by
 refine ac (n:=23) (rs:=[]) rfl Tryz.e156 rfl rfl rfl (lbt rfl) ?_
 simp only [BS]
 refine aZ (fun(i:Nat) ρ h=>i<l.length/\Mo (fun c=>c=bl\/c=bm) h0 h/\ ∃l',ef h bh bl bm cap n l'/\l'.Perm l/\ot l' i/\ρ 0=ptrTo bh/\ρ 1=.int .i64 i) (fun i=>i) ?_ i _ _ ?_
 . intro i ih ρ h ⟨hi,mo,l',R,pm,U,r0,r1⟩
   have hlen:=pm.length_eq
   by_cases h0':i=0
   . subst h0'
     simp only [BS,LB,Nat.reduceLT,Nat.reduceEqDiff,Int.reduceLT,yb,r1]
     exact⟨mo,l',R,pm,up_done U (.inl rfl)⟩
   . have hp:(0:Int)<(i:Int):=by omega
     have w1:au .i64 ((i:Int)-1)=((i-1:Nat):Int):=by rw [wrap64]<;>omega
     have w2:au .i64 (((i-1:Nat):Int).tdiv 4)=(((i-1)/4:Nat):Int):=by
      rw [Int.tdiv_eq_ediv_of_nonneg (by omega),show(((i-1:Nat):Int)/4)=(((i-1)/4:Nat):Int) by omega,wrap64]<;>omega
     simp only [BS,LB,Nat.reduceLT,Nat.reduceEqDiff,r0,r1,hp,w1,w2,o9 (n:=4) (by decide)]
     refine ar (ud mo.ok R (i:=i) (k:=(i-1)/4) (by omega) (by omega)) ?_
     intro h g;replace R:=R.gr g;replace mo:=mo.trans (M':=NoM) g.fr (fun _ h=>h.elim);clear g
     by_cases ha:hlt (l'.getD i default) (l'.getD ((i-1)/4) default)
     . simp only [BS,LB,Nat.reduceLT,Nat.reduceEqDiff,r0,r1,w1,w2,o9 (n:=4) (by decide),ha]
       refine step_ret (pq mo.ok R (i:=i) (k:=(i-1)/4) (by omega) (by omega)) ?_
       rintro v h ⟨f,R⟩
       replace mo:=mo.trans f (fun _ h=>.inl h)
       simp only [BS,LB,Nat.reduceLT,Nat.reduceEqDiff,r1,w1,w2,o9 (n:=4) (by decide)]
       exact ih ((i-1)/4) _ _ (by omega) ⟨by omega,mo,_,R,(pb l' (by omega) (by omega)).trans pm,up_step (by omega) U (by omega) ha,by simp [aa,r0,ah],by simp [aa]⟩
     . simp only [BS,LB,Nat.reduceLT,Nat.reduceEqDiff,o9 (n:=4) (by decide),ha]
       exact⟨mo,l',R,pm,up_done U (.inr (rA ha))⟩
 . exact⟨hi,Mo.refl ok,l,R,.refl _,U,by simp [aV,ah],by simp [aV,bV]⟩
open Tryz in
def Tryz.FFh2177:=aj a1<|aj s1<|aj z1<|aj n1<|aj u2<|aj a2<|aj s2<|aj z2<|aj i2<|aj u3<|aj a3<|aj s3<|aj z3<|aj i3<|aj u4<|aj a4<|aj s4<|aj z4<|aj n4<|aj u153<|aj a153<|aj s153<|aj z153<|aj n153<|aj a154<|aj s154<|aj z154<|aj n154<|aj u246<|aj a246<|aj s246<|aj z246<|aj q246<|aj n246<|aj a248<|aj s248<|aj z248<|aj i248<|aj n248<|aj p248<|aj ff248<|aj d248<|aj a255<|aj s255<|aj z255<|aj i255<|aj n255<|aj p255<|aj ff255<|aj d255<|aj u269<|aj a269<|aj s269<|aj z269<|aj q269<|aj i269<|n269
open Tryz in
def Tryz.FFh2159:=aj a1<|aj s1<|aj z1<|aj n1<|aj u2<|aj a2<|aj s2<|aj z2<|aj i2<|aj u3<|aj a3<|aj s3<|aj z3<|aj i3<|aj u4<|aj a4<|aj s4<|aj z4<|aj n4<|aj u5<|aj a5<|aj s5<|aj z5<|aj i5<|aj u6<|aj a6<|aj s6<|aj z6<|aj i6<|aj a7<|aj s7<|aj z7<|aj i7<|aj n7<|aj p7<|aj ff7<|aj d7<|aj a8<|aj s8<|aj z8<|aj i8<|aj n8<|aj p8<|aj ff8<|aj d8<|aj u9<|aj a9<|aj s9<|aj z9<|aj n9<|aj u12<|aj a12<|aj s12<|aj z12<|aj i12<|aj a13<|aj s13<|aj z13<|aj i13<|aj n13<|aj p13<|aj ff13<|aj d13<|aj u153<|aj a153<|aj s153<|aj z153<|aj n153<|aj a222<|aj s222<|aj z222<|aj n222<|aj u246<|aj a246<|aj s246<|aj z246<|aj q246<|aj n246<|aj a248<|aj s248<|aj z248<|aj i248<|aj n248<|aj p248<|aj ff248<|aj d248<|aj u269<|aj a269<|aj s269<|aj z269<|aj q269<|aj i269<|aj n269<|aj a270<|aj s270<|aj z270<|n270
theorem St.monoM{M:Nat->Prop}{h0 h:Hp}{L:List (Nat×Ob)}{G:List GL}(S:St NoM h0 h L G):St M h0 h L G:=
 ⟨S.fr.mono (fun _ h=>h.elim),fun p hp=>⟨(S.own p hp).1.imp (fun h=>h) (fun h=>h.elim),(S.own p hp).2⟩,fun p hp=>⟨(S.gown p hp).1,fun b hb=>((S.gown p hp).2 b hb).imp (fun h=>h) (fun h=>h.elim)⟩,S.apart⟩
theorem below_ok{h0:Hp}(ok:h0.t.Sized h0.n){bh i:Nat}:Ret xX 172 [ptrTo bh,.int .i64 i] h0 fun v h'=>Gr h0 h'/\ ∃b1 b2,v=.func (.func 177) #[] #[ptrTo b1,ptrTo b2]/\h0.n<=b1/\h0.n<=b2/\h'.load b1 0 1=some [.int .i64 i]/\h'.load b2 0 1=some [ptrTo bh]:=by
 have S:=Si ok
 refine ac (n:=6) (rs:=[.tmp 4]) rfl Tryz.e172 rfl rfl rfl (lbt rfl) ?_
 simp only [BS,Nat.reduceLT]
 refine ae (co (by exact fb)) S ?_;clear S;intro h b2 S n_b2
 simp only [BS,Nat.reduceLT,Nat.reduceEqDiff,if_false]
 refine ae (co (by exact bw)) S ?_;clear S;intro h b1 S n_b1
 simp only [BS,LB,ab,Nat.reduceLT,Nat.reduceEqDiff]
 exact⟨S.gr,b1,b2,rfl,n_b1,n_b2,S.ld m0 rfl,S.ld m1 rfl⟩
theorem wS{h0:Hp}(ok0:h0.t.Sized h0.n){b1 b2 bh i n cap:Nat}{sl':Addr}(hb1:h0.load b1 0 1=some [.int .i64 i])(hb2:h0.load b2 0 1=some [ptrTo bh])(hs:h0.load bh 0 1=some [.slice (some sl') n cap])(hn:n<1000000)(hi:i<1000000):
 Iter xX 177 [] [ptrTo b1,ptrTo b2] h0 (fun c=>c=b1\/c=b2\/c=bh) ((ya (min 4 (n-(4*i+1)))).map fun j=>[.int .i64 ((4*i+1+j:Nat):Int)]):=by
 refine pC fun lb J Z Y h F s hj=>?_
 refine enter (n:=28) (rs:=[]) rfl Tryz.e177 rfl rfl rfl (lbt rfl) ?_
 have l1:=s.load ok0 hb1 (.inl rfl)
 have a1:au .i64 (4*(i:Int))=((4*i:Nat):Int):=by rw [wrap64]<;>omega
 have a2:au .i64 (((4*i:Nat):Int)+1)=((4*i+1:Nat):Int):=by rw [wrap64]<;>omega
 have a3:au .i64 (((4*i:Nat):Int)+4)=((4*i+4:Nat):Int):=by rw [wrap64]<;>omega
 simp only [BS,LB,Nat.reduceLT,Nat.reduceEqDiff,Tryz.FFh2177,l1,a1,a2]
 refine aZ (fun(j:Nat) ρ h=>j<=min 4 (n-(4*i+1))/\ ∃F,ItS h0 (fun c=>c=b1\/c=b2\/c=bh) h F/\J j h F/\ρ 0=.func (.yield lb) #[] #[]/\ρ 1=ptrTo b1/\ρ 2=ptrTo b2/\ρ 4=.int .i64 ((4*i+1+j:Nat):Int)) (fun j=>min 4 (n-(4*i+1))-j) ?_ 0 _ _ ?_
 . clear l1
   intro j ih ρ h ⟨hjm,F,s,hj,r0,r1,r2,r4⟩
   have l1:=s.load ok0 hb1 (.inl rfl)
   have l2:=s.load ok0 hb2 (.inr (.inl rfl))
   have l3:=s.load ok0 hs (.inr (.inr rfl))
   by_cases hlt:j<min 4 (n-(4*i+1))
   . have c1:((4*i+1+j:Nat):Int)<=((4*i+4:Nat):Int):=by omega
     have c2:4*i+1+j<n:=by omega
     have w:au .i64 (((4*i+1+j:Nat):Int)+1)=((4*i+1+(j+1):Nat):Int):=by rw [wrap64]<;>omega
     simp only [BS,LB,Nat.reduceLT,Nat.reduceEqDiff,Tryz.FFh2177,r0,r1,r2,r4,l1,l2,l3,a1,a3,c1,c2,aI]
     refine eG Y s hj (i:=j) (by rw [y7,zu hlt];rfl) ?_ ?_ ?_
     . intro h' F' a s' _ _
       simp only [BS,LB,Nat.reduceLT,Nat.reduceEqDiff,r4,w]
       exact ih (j+1) _ _ (by omega) ⟨by omega,F',s',a,by simp [aa,r0],by simp [aa,r1,ah],by simp [aa,r2,ah],by simp [aa]⟩
     . intro h' a _
       simp only [BS,LB,Nat.reduceLT,Nat.reduceEqDiff]
       exact iw rfl ⟨rfl,.inr (.inl ⟨_,rfl,a⟩)⟩
     . intro v h' a
       simp only [BS]
       exact iO (dy ⟨rfl,.inr (.inr ⟨_,rfl,a⟩)⟩)
   . have ej:j=min 4 (n-(4*i+1)):=by omega
     have fin:YQ J Z (min 4 (n-(4*i+1))) (.ret (ab [])) none h:=⟨rfl,.inl ⟨_,F,rfl,by rw [<-ej];exact hj⟩⟩
     by_cases c1:((4*i+1+j:Nat):Int)<=((4*i+4:Nat):Int)
     . have c2: ¬4*i+1+j<n:=by omega
       simp only [BS,LB,Nat.reduceLT,Nat.reduceEqDiff,Tryz.FFh2177,r1,r2,r4,l1,l2,l3,a1,a3,c1,c2,aI]
       exact dv (dy ⟨rfl,_,rfl,by simpa using fin⟩)
     . simp only [BS,LB,Nat.reduceLT,Nat.reduceEqDiff,Tryz.FFh2177,r1,r4,l1,a1,a3,c1]
       exact dv (dy ⟨rfl,_,rfl,by simpa using fin⟩)
 . exact⟨by omega,F,s,hj,by simp [aa,ce],by simp [aa,ce,ah],by simp [aa,ce,ah],by simp [aa]⟩
theorem down_ok {h0:Hp} (ok:h0.t.Sized h0.n) {bh bl bm cap:Nat} {n:Int} {l:List Hd} (R:ef h0 bh bl bm cap n l) {i:Nat} (hi:i<l.length\/(l=[]/\i=0)) (hl:l.length<100000) (D:pA l i):
 Ret xX 159 [ptrTo bh,.int .i64 i] h0 fun v h'=>Mo (fun c=>c=bl\/c=bm) h0 h'/\ ∃l',ef h' bh bl bm cap n l'/\l'.Perm l/\jP l':=by
 have lt:=R.lt ok
 have S:=Si ok
 have nk: ∀{L:List (Nat×Ob)},(∀c∈keys L [],h0.n<=c)-> ∀c,c=bh\/c=bl\/c=bm-> ¬c∈keys L []:=fun hK c hc hm=>by have:=lt c hc;have:=hK c hm;omega
 refine ac (n:=27) (rs:=[]) rfl Tryz.e159 rfl rfl rfl (lbt rfl) ?_
 simp only [BS,LB,Nat.reduceLT,Tryz.FFh2159]
 refine ae aw S ?_;clear S;intro h bf S n_bf
 simp only [BS,LB,Nat.reduceLT,Nat.reduceEqDiff]
 refine az (aB S (i:=0) rfl ?_ ?_ ?_ ono) ?_
 . exact(by simp only [Tryz.FFh2159])
 . exact(by exact ja)
 . exact yl (lbt rfl)
 clear S;rintro h ⟨S,mo⟩;clear mo;simp only [LC,ag,lay,yq,yr,Nat.reduceAdd]at S
 simp only [BS]
 have RR:=R.gr S.gr
 replace S:=S.monoM (M:=fun c=>c=bl\/c=bm)
 refine oB (fun(i:Nat) ρ d h=> ∃(dbs:List Nat) (l':List Hd),d=dbs.map nV/\St (fun c=>c=bl\/c=bm) h0 h (dG dbs++[(bf,.row [.func (.func 171) #[ptrTo bh] #[]] 1)]) []/\(∀c∈keys (dG dbs++[(bf,Ob.row [.func (.func 171) #[ptrTo bh] #[]] 1)]) [],h0.n<=c)/\
  ef h bh bl bm cap n l'/\l'.Perm l/\pA l' i/\(i<l.length\/(l=[]/\i=0))/\ρ 0=ptrTo bh/\ρ 1=.int .i64 i/\ρ 4=ptrTo bf) (fun i=>l.length-i) ?_ i _ _ _ ?_
 . clear S RR R D hi i
   intro i ih ρ d hS ⟨dbs,l',hd,S0,hK,R,pm,D,hi,r0,r1,r4⟩
   have hlen:=pm.length_eq
   have hi':i<1000000:=by rcases hi with hi|⟨_,hi⟩<;>omega
   have S:=S0.base
   have Rs:=R
   have n0:h0.n<=hS.n:=S0.fr.n
   simp only [BS,Nat.reduceLT,Tryz.FFh2159,r1]
   refine ae aw S ?_;clear S;intro h bb S n_bb
   simp only [BS,LB,Nat.reduceLT,Nat.reduceEqDiff]
   refine az (aB S (i:=0) rfl ?_ ?_ ?_ ono) ?_
   . exact(by simp only [Tryz.FFh2159])
   . exact(by exact bw)
   . exact yl (lbt rfl)
   clear S;rintro h ⟨S,mo⟩;clear mo;simp only [LC,ag,lay,yq,yr,Nat.reduceAdd]at S
   simp only [BS,LB,Nat.reduceLT,Nat.reduceEqDiff,r0,r1]
   have gq:=S.fr.n
   have lbb:=S.key_lt (b:=bb) (by simp [keys])
   refine step_ret (below_ok S.ok) ?_;intro v h ⟨g,b1,b2,e,n1,n2,q1,q2⟩;replace S:=S.call g;clear g
   subst e
   simp only [BS]
   replace R:=R.mo1 S.fr (nk hK)
   have gh:=S.fr.n
   refine g8 S (g:=177) (a:=#[]) (b:=#[ptrTo b1,ptrTo b2]) (by simp [bK,aa,ah]) rfl rfl ?_
   intro h2 db lb S' hdb hlb g2
   have kb: ∀c∈keys (dG dbs++[(bf,Ob.row [.func (.func 171) #[ptrTo bh] #[]] 1)]) [],c<b1/\c<b2:=fun c hc=>by have:=S0.key_lt hc;have:=n_bb;omega
   generalize hB:dG dbs++[(bf,Ob.row [.func (.func 171) #[ptrTo bh] #[]] 1)]=B at S S' S0 hK kb
   have mf:(bf,Ob.row [.func (.func 171) #[ptrTo bh] #[]] 1)∈B:=by rw [<-hB];exact List.mem_append_right _ m0
   obtain⟨X,hX,S'⟩: ∃X:eo,X=_/\St (· ∈keys B []) hS h2 ((lb,.loop X)::(db,.dfr)::(bb,.row [.int .i64 (i:Nat)] 1)::B) []:=⟨_,rfl,S'⟩
   have R2:=R.gr g2
   have ch: ∀j,j<min 4 (l'.length-(4*i+1))->4*i+1+j<l'.length/\(4*i+1+j-1)/4=i:=fun j hj=>⟨by omega,by omega⟩
   have hY:Yld xX lb (fun j h' F=> ∃best:Nat,St (· ∈keys B []) hS h' ((lb,.loop X)::(db,.dfr)::(bb,.row [.int .i64 (best:Nat)] 1)::B) []/\F=keys ((lb,.loop X)::(db,.dfr)::(bb,.row [.int .i64 (best:Nat)] 1)::B) []/\
    (best<l'.length\/(l'=[]/\best=i))/\hle (l'.getD best default) (l'.getD i default)/\(∀q,q<j->hle (l'.getD best default) (l'.getD (4*i+1+q) default))/\(best=i\/(0<best/\(best-1)/4=i/\hlt (l'.getD best default) (l'.getD i default)))) (fun _ _=>False) ((ya (min 4 (l'.length-(4*i+1)))).map fun j=>[.int .i64 ((4*i+1+j:Nat):Int)]):=by
    refine⟨?_,?_,fun _ _ h=>h.elim,?_⟩
    . rintro j h F ⟨best,S,rfl,_⟩;exact⟨S.ok,fun b hb=>S.key_lt hb⟩
    . rintro j h F h' ⟨best,S,rfl,k⟩ g;exact⟨best,S.call g,rfl,k⟩
    . rintro j x h F hx ⟨best,S,rfl,k1,k2,k3,k4⟩
      have hjl:j<min 4 (l'.length-(4*i+1)):=by
       have:=(List.getElem?_eq_some_iff.1 hx).1
       simpa using this
      rw [y7,zu hjl]at hx
      cases hx
      obtain⟨c1,c2⟩:=ch j hjl
      replace k1:=k1.resolve_right (by intro e;rw [e.1]at c1;simp at c1)
      obtain⟨X0,hX0⟩: ∃x,x=X:=⟨_,rfl⟩
      subst hX
      refine hI (S.get m0) (by rw [Tryz.e159];rfl) rfl ?_
      have S1:=S
      replace S:=S.base
      simp only [BS,LB,Nat.reduceLT,Nat.reduceEqDiff]
      refine gp S (i:=0) rfl rfl rfl rfl rfl ?_
      clear S;intro h S
      simp only [LC]at S
      have lf:h.load bf 0 1=some [.func (.func 171) #[ptrTo bh] #[]]:=S.ld (o:=0) (.tail _ (.tail _ (.tail _ mf))) rfl
      simp only [BS,LB,Nat.reduceLT,Nat.reduceEqDiff,Tryz.FFh2159,r4,lf,S.ld (b:=bb) (o:=0) m2 rfl]
      have hK': ∀c∈keys ((lb,Ob.loop X0)::(db,.dfr)::(bb,.row [.int .i64 (best:Nat)] 1)::B) [],h0.n<=c:=fun c hc=>(S1.key_own hc).elim (fun h=>by omega) (fun h=>hK c h)
      clear hX0
      have Rc:ef h bh bl bm cap n l':=(Rs.mo1 S1.fr (nk hK)).mo1 S.fr (nk hK')
      refine ar (ud S.ok Rc c1 k1) ?_
      intro h g;replace S:=S.call g;clear g Rc lf
      by_cases ha:hlt (l'.getD (4*i+1+j) default) (l'.getD best default)
      . simp only [BS,LB,Nat.reduceLT,Nat.reduceEqDiff,ha]
        refine az (aB S (i:=2) rfl ?_ ?_ ?_ ono) ?_
        . exact(by simp only [Tryz.FFh2159])
        . exact(by exact bw)
        . exact yl (lbt rfl)
        clear S;rintro h ⟨S,mo⟩;clear mo;simp only [LC,ag,lay,yq,yr,Nat.reduceAdd]at S
        simp only [BS]
        refine dY S (i:=0) rfl ?_
        clear S;intro h S
        simp only [LC]at S
        refine .inl ⟨rfl,_,⟨4*i+1+j,S1.rebase S,rfl,.inl c1,iU (oY ha) k2,fun q hq=>?_,.inr ⟨by omega,c2,?_⟩⟩,S.fr,S.key_new⟩
        . by_cases e:q=j
          . subst e;exact qs _
          . exact iU (oY ha) (k3 q (by omega))
        . rcases k4 with rfl|⟨_,_,k4⟩
          . exact ha
          . unfold hlt at*;omega
      . simp only [BS,LB,Nat.reduceLT,Nat.reduceEqDiff,ha]
        refine dY S (i:=0) rfl ?_
        clear S;intro h S
        simp only [LC]at S
        refine .inl ⟨rfl,_,⟨best,S1.rebase S,rfl,.inl k1,k2,fun q hq=>?_,k4⟩,S.fr,S.key_new⟩
        by_cases e:q=j
        . subst e;exact rA ha
        . exact k3 q (by omega)
   refine fg (vv (wS S.ok q1 q2 (R.row.load1 (o:=0) rfl) (by omega) hi') hY (h:=h2) (F:=keys ((lb,.loop X)::(db,.dfr)::(bb,.row [.int .i64 (i:Nat)] 1)::B) []) g2.fr (fun b hb hlt=>?_) ⟨i,S',rfl,?_,qs _,fun q hq=>by omega,.inl rfl⟩) fun o rc h' y=>jJ y ?_
   . have e1:=S'.key_own hb
     rintro(rfl|rfl|rfl)
     . rcases List.mem_cons.1 hb with e|hb
       . omega
       . rcases List.mem_cons.1 hb with e|hb
         . omega
         . rcases List.mem_cons.1 hb with e|hb
           . simp only []at e;omega
           . have:=(kb _ hb).1;omega
     . rcases List.mem_cons.1 hb with e|hb
       . omega
       . rcases List.mem_cons.1 hb with e|hb
         . omega
         . rcases List.mem_cons.1 hb with e|hb
           . simp only []at e;omega
           . have:=(kb _ hb).2;omega
     . have:=lt b (.inl rfl)
       rcases e1 with e1|e1
       . omega
       . have:=hK b e1;omega
   . rcases hi with hi|⟨hi,_⟩
     . exact .inl (by omega)
     . right;rw [hi]at pm;exact⟨pm.eq_nil,rfl⟩
   . rintro F ⟨best,T,rfl,k1,k2,k3,k4⟩
     rw [List.length_map,List.length_range]at k3
     subst hX
     refine⟨_,T.get m0,Nat.zero_ne_one,?_⟩
     replace T:=T.dead
     show Run _ _ _ _ _ _ _ _
     have lbest:=T.ld (b:=bb) (o:=0) m1 rfl
     have Rc:ef _ bh bl bm cap n l':=Rs.mo1 T.fr (nk hK)
     have km: ∀q,0<q->q<l'.length->(q-1)/4=i->hle (l'.getD best default) (l'.getD q default):=fun q q0 ql qe=>by
      have:=k3 (q-(4*i+1)) (by omega)
      rwa [show 4*i+1+(q-(4*i+1))=q by omega]at this
     have T0:=S0.rebase T
     have hK2: ∀c∈keys ((db,Ob.dfr)::(bb,.row [.int .i64 (best:Nat)] 1)::B) [],h0.n<=c:=fun c hc=>(T.key_own hc).elim (fun h=>by omega) (fun h=>hK c h)
     subst hd hB
     have T2:=T0.sub (L':=dG (db::dbs)++[(bf,Ob.row [.func (.func 171) #[ptrTo bh] #[]] 1)]) (G':=[]) (List.Sublist.cons_cons _ (List.sublist_cons_self _ _)) (List.Sublist.refl _)
     have hK3: ∀c∈keys (dG (db::dbs)++[(bf,Ob.row [.func (.func 171) #[ptrTo bh] #[]] 1)]) [],h0.n<=c:=fun c hc=>hK2 c (by simp only [keys,y6,yo,dG,yi,List.cons_append,yD]at hc⊢;rcases hc with h|h;exact .inl h;exact .inr (.inr h))
     by_cases e:best=i
     . subst e
       simp only [BS,LB,Nat.reduceLT,Nat.reduceEqDiff,Tryz.FFh2159,r1,lbest]
       have T3:=T2.base
       refine eJ (iD (db::dbs) _ T3 fun h' T4=>⟨rfl,_,rfl,?_⟩)
       refine⟨(T2.fr.trans T4.fr fun c hc=>(T2.key_own hc).symm),l',Rc.mo1 T4.fr (nk hK3),pm,dn_done D km⟩
     . have e': ¬((best:Int)=(i:Int)):=by omega
       obtain⟨b0,be,bl'⟩:=k4.resolve_left e
       replace k1:=k1.resolve_right (fun h=>e h.2)
       simp only [BS,LB,Nat.reduceLT,Nat.reduceEqDiff,Tryz.FFh2159,r0,r1,lbest,e']
       refine step_ret (pq T2.ok Rc (i:=i) (k:=best) (by omega) k1) ?_
       rintro v h ⟨f,Rn⟩
       have lt2:=nk hK3
       have T3:=T2.step f (fun c hc=>.inl hc) (fun c hc hM=>lt2 c (.inr hM) hc)
       have f2:Mo (fun c=>c=bl\/c=bm) _ h:=f
       have lb2:h.load bb 0 1=some [.int .i64 (best:Nat)]:=by
        have hbb:h0.n<=bb:=hK2 bb (.tail _ m0)
        have:=f.get bb (bg f.ok0 lbest) (fun hM=>by have:=lt bb (.inr hM);omega)
        unfold Hp.load at lbest⊢
        rw [this];exact lbest
       simp only [BS,LB,Nat.reduceLT,Nat.reduceEqDiff,Tryz.FFh2159,lb2]
       exact ih best _ _ _ (by omega) ⟨db::dbs,_,rfl,T3,hK3,Rn,(pb l' (by omega) k1).trans pm,dn_step D b0 k1 be bl' km,.inl (by omega),by simp [aa,r0,ah],by simp [aa],by simp [aa,r4,ah]⟩
 . exact⟨[],l,rfl,S,fun c hc=>by simp [keys,dG]at hc;subst hc;exact n_bf,RR,.refl _,D,hi,by simp [aa,aV,ah],by simp [aa,aV,bV],by simp [aa,ah]⟩
end Go.Ab
end
section
namespace Go.Ab
theorem iT.push{f:Int->Option Value}{l:List Hd}(h:iT f l){x:Hd}(hx:x.id∉l.map Hd.id):iT (dl f x.id (some (.int .i64 l.length))) (l++[x]):=by
 refine⟨fun i hi=>?_,fun y v hy=>?_⟩
 . unfold dl
   simp at hi
   by_cases e:i=l.length
   . subst e
     have:(l++[x]).getD l.length default=x:=by simp [xW]
     rw [this,if_pos rfl]
   . rw [js l _ (by omega),if_neg ?_]
     . exact h.1 i (by omega)
     . intro e2
       apply hx
       have hil:i<l.length:=by omega
       refine List.mem_map.2 ⟨l.getD i default,?_,by omega⟩
       rw [xW,yA hil]
       exact yM hil
 . unfold dl at hy
   by_cases e:y=x.id
   . refine⟨l.length,by simp,?_⟩
     have:(l++[x]).getD l.length default=x:=by simp [xW]
     rw [this];exact e
   . rw [if_neg e]at hy
     obtain⟨i,hi,e2⟩:=h.2 y v hy
     exact⟨i,by simp;omega,by rw [js l _ hi];exact e2⟩
theorem iT.cut{f:Int->Option Value}{l:List Hd}(h:iT f l){m:Nat}(hm:l.length=m+1):iT (dl f (l.getD m default).id none) (l.take m):=by
 refine⟨fun i hi=>?_,fun y v hy=>?_⟩
 . rw [yB]at hi
   rw [getD_take l (by omega)]
   unfold dl
   rw [if_neg ?_]
   . exact h.1 i (by omega)
   . intro e
     have:=h.inj (i:=i) (j:=m) (by omega) (by omega) (by omega)
     omega
 . unfold dl at hy
   by_cases e:y=(l.getD m default).id
   . rw [if_pos e]at hy;cases hy
   . rw [if_neg e]at hy
     obtain⟨i,hi,e2⟩:=h.2 y v hy
     have:i≠m:=fun e3=>by subst e3;exact e e2
     exact⟨i,by rw [yB];omega,by rw [getD_take l (by omega)];exact e2⟩
theorem iT.setKey{f:Int->Option Value}{l:List Hd}(h:iT f l){i:Nat}(k:Int):iT f (l.set i ⟨(l.getD i default).id,k⟩):=by
 have e: ∀j,((l.set i ⟨(l.getD i default).id,k⟩).getD j default).id=(l.getD j default).id:=fun j=>by
  rw [iZ]
  split
  . rename_i e;rw [e.1]
  . rfl
 refine⟨fun j hj=>?_,fun y v hy=>?_⟩
 . rw [e];exact h.1 j (by rwa [yd]at hj)
 . obtain⟨j,hj,e2⟩:=h.2 y v hy
   exact⟨j,by rwa [yd],by rw [e];exact e2⟩
theorem idxF_nil:iT (fun _=>none) []:=⟨fun i hi=>by simp at hi,fun x v h=>by cases h⟩
theorem df.take{cs:List Value}{cap:Nat}{l:List Hd}(c:df cs cap l)(m:Nat):df cs cap (l.take m):=
 ⟨c.len,yn (by rw [yB];omega) c.le,fun i hi=>by
  rw [yB]at hi
  rw [getD_take l (by omega)]
  exact c.at0 i (by omega)⟩
theorem df.push{cs cs':List Value}{cap cap':Nat}{l:List Hd}(c:df cs cap l){x:Hd}(hl:cs'.length=cap'*2)(hc:l.length<cap')(h1: ∀j,j<l.length*2->cs'[j]? =cs[j]?)(h2:cs'[l.length*2]? =some (.int .i64 x.id)/\cs'[l.length*2+1]? =some (.int .i64 x.key)):df cs' cap' (l++[x]):=by
 refine⟨hl,by simp;omega,fun i hi=>?_⟩
 simp at hi
 by_cases e:i=l.length
 . subst e
   have:(l++[x]).getD l.length default=x:=by simp [xW]
   rw [this];exact h2
 . rw [js l _ (by omega),h1 _ (by omega),h1 _ (by omega)]
   exact c.at0 i (by omega)
theorem uR{E:Env}{t e:TypeId}{b k len cap n:Nat}{kd:IntKind}(hu:E.und t=some (.slice e))(hs:E.sz e=some k)(hn:n<=cap):ep E t (.slice (some ⟨b,0,some k⟩) len cap) none (some (.int kd (n:Int))) none=some (.slice (some ⟨b,0,some k⟩) n cap):=by
 have nat: ∀n:Nat,fT (n:Int)=some n:=fun n=>rfl
 simp only [ep,hu,d9,dV,nat,xZ hn,cond_true,hs,yv,cond_false,Nat.sub_zero,yF,Nat.add_zero,yT]
 cases yC cap 0<;>rfl
section
variable{M:Nat->Prop}{h0 h:Hp}{L:List (Nat×Ob)}{G:List GL}{E:Env}{t tx e:TypeId}{by_:Nat}{zs:List Value}
theorem St.appH{bl cap:Nat}{cs:List Value}{l:List Hd}(S:St M h0 h ((bl,.row cs 1)::L) G)(C:df cs cap l)(hu:E.und t=some (.slice e))(he:dN E e by_ 2 zs)(hb:0<by_)(hb2:by_<=100)(hx:ax E tx=some false){x:Hd}{xv:Value}(hsrc:aO h 2 xv=some (1,jo x))(hl:l.length<1000000){ts:List TypeId}:
 ∃h' w,c9 E h (t::tx::ts) (.slice (some ⟨bl,0,some 2⟩) l.length cap) xv=some (h',w)/\ ∃bl' cap' cs',w=.slice (some ⟨bl',0,some 2⟩) (l.length+1) cap'/\St M h0 h' ((bl',.row cs' 1)::L) G/\df cs' cap' (l++[x])/\(bl'=bl\/h.n<=bl'):=by
 obtain⟨⟨i,hi,rfl,hsz⟩,hz,hl2⟩:=he
 have hr:Row h bl cs 1:=S.row m0
 have clen:=C.len
 by_cases hc:l.length+1<=cap
 . obtain⟨y,h1,h2⟩:=hr.store S.ok ono (o:=l.length*2) (vs:=jo x) (by rw [iX];omega) rfl
   refine⟨h.put bl y,_,?_,bl,cap,_,rfl,S.put (i:=0) rfl h2,?_,.inl rfl⟩
   . simp only [c9,hx,jf,hu,hi,hsz,hsrc]
     unfold ey
     rw [xZ hc]
     simp only [cond_true,jo,hsz,yz]
     unfold jo at h1
     rw [h1]
   . refine C.push (by rw [lq (by rw [iX];omega)];exact clen) (by omega) (fun j hj=>?_) ⟨?_,?_⟩
     . rw [iH (by rw [iX];omega),if_neg (by omega)]
     . rw [iH (by rw [iX];omega),if_pos ⟨yu _,by rw [iX];omega⟩,yS];rfl
     . rw [iH (by rw [iX];omega),if_pos ⟨by omega,by rw [iX];omega⟩,zf];rfl
 . have ecap:cap=l.length:=by have:=C.le;omega
   obtain⟨tr,el,hget,hsz',htr⟩:=hr
   have hgt:jv tr cs.length 0 (l.length*2) (jo x)=some (tr.pushAll cs.length (jo x),cs.length+2):=by
    unfold jv
    rw [show l.length*2=cs.length by omega,yT,yT];rfl
   have T:=S.dead.new (x:=.cells (tr.pushAll cs.length (jo x)) (cs.length+2) e 1) (o:=.row (cs++jo x) 1) (by
    refine⟨tr.pushAll cs.length (jo x),e,?_,?_,fun n=>?_⟩
    . rw [Hp.get_new _ _ S.dead.ok,if_pos rfl,yh];rfl
    . rw [yh];exact Tr.sized_pushAll _ hsz'
    . rw [Tr.get_pushAll _ _ _ hsz',yy]
      split
      . exact htr n
      . rfl)
   refine⟨_,.slice (some ⟨h.n,0,some 2⟩) (l.length+1) (l.length+1),?_,h.n,l.length+1,_,rfl,T,?_,.inr (yu _)⟩
   . simp only [c9,hx,jf,hu,hi,hsz,hsrc]
     unfold ey
     have hcap:yY (l.length+1) cap=false:=by
      cases hx:yY (l.length+1) cap with
      |false=>rfl
      |true=>exact absurd (lbt hx) (by omega)
     rw [hcap]
     simp only [cond_false]
     have hguard:(yY ((l.length+1)*(i.bytes+1)) 70368744177664&&Nat.blt 0 i.bytes)=true:=by
      have:(l.length+1)*(i.bytes+1)<=1000000*101:=Nat.mul_le_mul (by omega) (by omega)
      rw [xZ (by omega)]
      simp only [Bool.true_and]
      rw [zn];exact hb
     have hzl:yC zs.length i.size=true:=by rw [hl2,hsz];rfl
     rw [hguard,hz]
     simp only [cond_true,hzl]
     unfold lz
     simp only [hget,hsz,hgt]
     rfl
   . refine C.push (by rw [yh,iX];omega) (by omega) (fun j hj=>?_) ⟨?_,?_⟩
     . rw [yJ (by omega)]
     . rw [yH (by omega),show l.length*2-cs.length=0 by omega];rfl
     . rw [yH (by omega),show l.length*2+1-cs.length=1 by omega];rfl
theorem St.appH0(S:St M h0 h L G)(hu:E.und t=some (.slice e))(he:dN E e by_ 2 zs)(hb:0<by_)(hb2:by_<=100)(hx:ax E tx=some false){x:Hd}{xv:Value}(hsrc:aO h 2 xv=some (1,jo x)){ts:List TypeId}:
 ∃h' w,c9 E h (t::tx::ts) (.slice none 0 0) xv=some (h',w)/\ ∃bl' cap' cs',w=.slice (some ⟨bl',0,some 2⟩) 1 cap'/\St M h0 h' ((bl',.row cs' 1)::L) G/\df cs' cap' [x]/\h.n<=bl':=by
 obtain⟨⟨i,hi,rfl,hsz⟩,hz,hl2⟩:=he
 have T:=S.new (x:=.cells (Tr.ofList (jo x)) 2 e 1) (o:=.row (jo x) 1) (lU S.ok (jo x) e 1)
 refine⟨_,.slice (some ⟨h.n,0,some 2⟩) 1 1,?_,h.n,1,_,rfl,T,⟨rfl,by simp,fun i hi=>?_⟩,yu _⟩
 . simp only [c9,hx,jf,hu,hi,hsz,hsrc]
   unfold ey
   have hcap:yY (0+1) 0=false:=rfl
   rw [hcap]
   simp only [cond_false]
   have hguard:(yY ((0+1)*(i.bytes+1)) 70368744177664&&Nat.blt 0 i.bytes)=true:=by
    rw [xZ (by omega)]
    simp only [Bool.true_and]
    rw [zn];exact hb
   have hzl:yC zs.length i.size=true:=by rw [hl2,hsz];rfl
   rw [hguard,hz]
   simp only [cond_true,hzl]
   unfold lz
   rw [show yC 0 0=true from rfl,hsz]
   rfl
 . have:i=0:=by simpa using hi
   subst this;exact⟨rfl,rfl⟩
theorem St.rowS{bh bl bm n cap c:Nat}{N:Int}{cs:List Value}{es:List (Value×Value×Nat)}{l:List Hd}{f:Int->Option Value}(S:St M h0 h [(bl,.row cs 1),(bh,.row [.slice (some ⟨bl,0,some 2⟩) n cap,.map (some bm),.int .i64 N] 1),(bm,.map es c)] [])(C:df cs cap l)(hn:n=l.length)(MI:c8 es c f)(IF:iT f l):ef h bh bl bm cap N l:=by
 subst hn
 have ap:=S.apart
 simp only [keys,yi,zz,y6,yo,yE,yD,yN,or_false,not_or]at ap
 exact⟨S.row m1,⟨cs,es,c,f,S.row m0,(S.own _ m2).2,C,MI,IF⟩,fun e=>ap.1.1 e.symm,ap.2.1,ap.1.2⟩
end
theorem jQ{ρ:Operand->Value}{b:Bool}{t:TypeId}{a v:Operand}{h h':Hp}:cb ρ b (.store t a v) h h'=(match ρ a with| .pointer (some a)=>some (.blk a.block)|_=>none):=by
 simp only [cb,dm,iW,dZ,touch,cond_false]
 cases ρ a<;>first|rfl|(rename_i x;cases x<;>rfl)
theorem note_len{ρ:Operand->Value}{b:Bool}{x:Operand}{ts:Array TypeId}{h h':Hp}:cb ρ b (.call ⟨.builtin .len,#[x],ts⟩) h h'=(match ρ x with| .map (some r)=>some (.blk r)| .slice (some a) _ _=>some (.blk a.block)|_=>none):=by
 simp only [cb,dm,iW,dZ,touch,cond_false]
 cases ρ x<;>first|rfl|(rename_i x;cases x<;>rfl)|(rename_i x _ _;cases x<;>rfl)
theorem dn_del{E:Env}{cx:Cx}{Q:dW}{a:List Oper}{q:Nat}{ps:List (Nat×Nat)}{o:Oper}{os:List Oper}{i:Nat}{k:List Fr}{l:Loc}{tf:Hp->List (Nat×Tch)}{h:Hp}{t:TypeId}{m key:Value}{P:Hp->Prop}(hx: ∃h',jX E h t m key=some h'/\P h')
 (hk: ∀h',P h'->Run E (lim E) cx Q (.opsD a q ps os (i+1) (tf h')::k) .normal (l.put o.dst (.tuple #[])) h'):DN E cx Q a q ps o os i k l tf (delR E h t m key):=by
 obtain⟨h',e,hp⟩:=hx
 unfold delR
 rw [e]
 exact hk h' hp
structure cy(h:Hp)(F:List Nat)(p:Value)(N:Nat)(K:Nat->Option Int):Prop where
 ex: ∃bh bm l,p=ptrTo bh/\jP l/\fJ l K/\(∀x∈l,x.id<N)/\
  ((l=[]/\F=[bh,bm]/\bh≠bm/\Row h bh [.slice none 0 0,.map (some bm),.int .i64 N] 1/\ ∃es c,h.get bm=some (.map es c)/\c8 es c (fun _=>none))\/ ∃bl cap,F=[bh,bl,bm]/\ef h bh bl bm cap N l)
theorem cy.mo{M:Nat->Prop}{h h':Hp}{F:List Nat}{p:Value}{N:Nat}{K:Nat->Option Int}(a:cy h F p N K)(g:Mo M h h')(hm: ∀b∈F,¬M b):cy h' F p N K:=by
 obtain⟨bh,bm,l,e,h1,h2,h3,h4⟩:=a.ex
 refine⟨bh,bm,l,e,h1,h2,h3,?_⟩
 rcases h4 with⟨k1,rfl,k3,k4,es,c,k5,k6⟩|⟨bl,cap,rfl,k⟩
 . exact .inl ⟨k1,rfl,k3,g.has (o:=.row _ 1) k4 (hm _ (by simp)),es,c,g.has (o:=.map es c) k5 (hm _ (by simp)),k6⟩
 . exact .inr ⟨bl,cap,rfl,k.mo g (hm _ (by simp)) (hm _ (by simp)) (hm _ (by simp))⟩
theorem cy.gr{h h':Hp}{F:List Nat}{p:Value}{N:Nat}{K:Nat->Option Int}(a:cy h F p N K)(g:Gr h h'):cy h' F p N K:=a.mo (M:=NoM) g.fr (fun _ _ h=>h)
theorem cy.lt{h:Hp}(ok:h.t.Sized h.n){F:List Nat}{p:Value}{N:Nat}{K:Nat->Option Int}(a:cy h F p N K): ∀b∈F,b<h.n:=by
 obtain⟨bh,bm,l,e,h1,h2,h3,h4⟩:=a.ex
 rcases h4 with⟨k1,rfl,k3,k4,es,c,k5,k6⟩|⟨bl,cap,rfl,k⟩
 . intro b hb
   simp at hb
   rcases hb with rfl|rfl
   . exact k4.lt ok
   . exact gm ok k5
 . intro b hb
   simp at hb
   exact k.lt ok b hb
theorem qt{l:List Hd}{K:Nat->Option Int}(h:fJ l K){N:Nat}(hN: ∀x∈l,x.id<N):l.length<=N:=by
 have:=nN N (l.map Hd.id) h.1 (fun x hx=>by obtain⟨y,hy,rfl⟩:=List.mem_map.1 hx;exact hN y hy)
 simpa using this
end Go.Ab

end
section
namespace Go.Ab
open Go.Proofs
set_option maxRecDepth 10000
open Tryz in
def Tryz.FFh3128:=aj a1<|aj s1<|aj z1<|aj n1<|aj u3<|aj a3<|aj s3<|aj z3<|aj i3<|aj u153<|aj a153<|aj s153<|aj z153<|aj n153<|aj u203<|aj a203<|aj s203<|aj z203<|aj q203<|aj i203<|aj n203<|aj u246<|aj a246<|aj s246<|aj z246<|aj q246<|aj n246<|aj a248<|aj s248<|aj z248<|aj i248<|aj n248<|aj p248<|aj ff248<|aj d248<|aj a250<|aj s250<|aj z250<|aj i250<|aj n250<|aj p250<|aj ff250<|aj d250<|aj a255<|aj s255<|aj z255<|aj i255<|aj n255<|aj p255<|aj ff255<|d255
open Tryz in
def Tryz.FFh3157:=aj a1<|aj s1<|aj z1<|aj n1<|aj u2<|aj a2<|aj s2<|aj z2<|aj i2<|aj u3<|aj a3<|aj s3<|aj z3<|aj i3<|aj u4<|aj a4<|aj s4<|aj z4<|aj n4<|aj u153<|aj a153<|aj s153<|aj z153<|aj n153<|aj u203<|aj a203<|aj s203<|aj z203<|aj q203<|aj i203<|aj n203<|aj u246<|aj a246<|aj s246<|aj z246<|aj q246<|aj n246<|aj a248<|aj s248<|aj z248<|aj i248<|aj n248<|aj p248<|aj ff248<|aj d248<|aj a250<|aj s250<|aj z250<|aj i250<|aj n250<|aj p250<|aj ff250<|aj d250<|aj a255<|aj s255<|aj z255<|aj i255<|aj n255<|aj p255<|aj ff255<|d255
open Tryz in
def Tryz.FFh3161:=aj a1<|aj s1<|aj z1<|aj n1<|aj u2<|aj a2<|aj s2<|aj z2<|aj i2<|aj u3<|aj a3<|aj s3<|aj z3<|aj i3<|aj u4<|aj a4<|aj s4<|aj z4<|aj n4<|aj u5<|aj a5<|aj s5<|aj z5<|aj i5<|aj u6<|aj a6<|aj s6<|aj z6<|aj i6<|aj u153<|aj a153<|aj s153<|aj z153<|aj n153<|aj u203<|aj a203<|aj s203<|aj z203<|aj q203<|aj i203<|aj n203<|aj u246<|aj a246<|aj s246<|aj z246<|aj q246<|aj n246<|aj a248<|aj s248<|aj z248<|aj i248<|aj n248<|aj p248<|aj ff248<|aj d248<|aj a250<|aj s250<|aj z250<|aj i250<|aj n250<|aj p250<|aj ff250<|aj d250<|aj a255<|aj s255<|aj z255<|aj i255<|aj n255<|aj p255<|aj ff255<|d255
open Tryz in
def Tryz.FFh3131:=aj a1<|aj s1<|aj z1<|aj n1<|aj u2<|aj a2<|aj s2<|aj z2<|aj i2<|aj u3<|aj a3<|aj s3<|aj z3<|aj i3<|aj u4<|aj a4<|aj s4<|aj z4<|aj n4<|aj u5<|aj a5<|aj s5<|aj z5<|aj i5<|aj u6<|aj a6<|aj s6<|aj z6<|aj i6<|aj a7<|aj s7<|aj z7<|aj i7<|aj n7<|aj p7<|aj ff7<|aj d7<|aj a8<|aj s8<|aj z8<|aj i8<|aj n8<|aj p8<|aj ff8<|aj d8<|aj u9<|aj a9<|aj s9<|aj z9<|aj n9<|aj u44<|aj a44<|aj s44<|aj z44<|aj i44<|aj u153<|aj a153<|aj s153<|aj z153<|aj n153<|aj u203<|aj a203<|aj s203<|aj z203<|aj q203<|aj i203<|aj n203<|aj u246<|aj a246<|aj s246<|aj z246<|aj q246<|aj n246<|aj a248<|aj s248<|aj z248<|aj i248<|aj n248<|aj p248<|aj ff248<|aj d248<|aj a250<|aj s250<|aj z250<|aj i250<|aj n250<|aj p250<|aj ff250<|aj d250<|aj a255<|aj s255<|aj z255<|aj i255<|aj n255<|aj p255<|aj ff255<|d255
open Tryz in
def Tryz.FFh3162:=aj a1<|aj s1<|aj z1<|aj n1<|aj u2<|aj a2<|aj s2<|aj z2<|aj i2<|aj u3<|aj a3<|aj s3<|aj z3<|aj i3<|aj u4<|aj a4<|aj s4<|aj z4<|aj n4<|aj u5<|aj a5<|aj s5<|aj z5<|aj i5<|aj u6<|aj a6<|aj s6<|aj z6<|aj i6<|aj a7<|aj s7<|aj z7<|aj i7<|aj n7<|aj p7<|aj ff7<|aj d7<|aj a8<|aj s8<|aj z8<|aj i8<|aj n8<|aj p8<|aj ff8<|aj d8<|aj u9<|aj a9<|aj s9<|aj z9<|aj n9<|aj u10<|aj a10<|aj s10<|aj z10<|aj n10<|aj u11<|aj a11<|aj s11<|aj z11<|aj n11<|aj u12<|aj a12<|aj s12<|aj z12<|aj i12<|aj u44<|aj a44<|aj s44<|aj z44<|aj i44<|aj u153<|aj a153<|aj s153<|aj z153<|aj n153<|aj u203<|aj a203<|aj s203<|aj z203<|aj q203<|aj i203<|aj n203<|aj u246<|aj a246<|aj s246<|aj z246<|aj q246<|aj n246<|aj a248<|aj s248<|aj z248<|aj i248<|aj n248<|aj p248<|aj ff248<|aj d248<|aj a250<|aj s250<|aj z250<|aj i250<|aj n250<|aj p250<|aj ff250<|aj d250<|aj a255<|aj s255<|aj z255<|aj i255<|aj n255<|aj p255<|aj ff255<|d255
theorem qE{h0:Hp}(ok:h0.t.Sized h0.n){N:Nat}:Ret xX 128 [.int .i64 N] h0 fun v h'=>Gr h0 h'/\ ∃F,cy h' F v N (fun _=>none)/\ ∀b∈F,h0.n<=b:=by
 have S:=Si ok
 have mx:max (N:Int) 0=(N:Int):=by omega
 refine ac (n:=9) (rs:=[.tmp 2]) rfl Tryz.e128 rfl rfl rfl (lbt rfl) ?_
 simp only [BS]
 refine ae rO S ?_;clear S;intro h bm S n_bm
 simp only [BS,LB,Nat.reduceLT,Nat.reduceEqDiff,Nat.reduceAdd,Nat.reduceLeDiff,Tryz.FFh3128,mx]
 refine ae (bE (by intro x e;cases e)) S ?_;clear S;intro h b S n_b;simp only [ag]at S
 simp only [BS,LB,ab,Nat.reduceLT,Nat.reduceEqDiff]
 have ap:=S.apart
 simp only [keys,yi,zz,y6,yo,yE,yD,yN,or_false]at ap
 refine⟨S.gr,[b,bm],⟨b,bm,[],rfl,fun j _ hj=>(by simp at hj),cont_nil,fun x hx=>(by cases hx),.inl ⟨rfl,rfl,ap.1,S.row m0,[],0,(S.own _ m1).2,qq⟩⟩,fun c hc=>?_⟩
 simp at hc
 rcases hc with rfl|rfl
 . exact n_b
 . exact n_bm
section
variable{h0:Hp}{F:List Nat}{p:Value}{N:Nat}{K:Nat->Option Int}
theorem qZ(ok:h0.t.Sized h0.n)(H:cy h0 F p N K): ∃m:Nat,bC xX 157 [p] h0 (.int .i64 m)/\(m=0↔ ∀v,K v=none):=by
 obtain⟨bh,bm,l,rfl,ho,hc,hN,hx⟩:=H.ex
 refine⟨l.length,?_,?_⟩
 . have S:=Si ok
   obtain⟨a,n,c,m1,m2,hr,hn⟩: ∃a n c m1 m2,Row h0 bh [.slice a n c,m1,m2] 1/\n=l.length:=by
    rcases hx with⟨rfl,_,_,hr,_⟩|⟨bl,cap,_,hr⟩
    . exact⟨_,_,_,_,_,hr,rfl⟩
    . exact⟨_,_,_,_,_,hr.row,rfl⟩
   subst hn
   have l0:=hr.load1 (o:=0) rfl
   refine ac (n:=11) (rs:=[.tmp 2]) rfl Tryz.e157 rfl rfl rfl (lbt rfl) ?_
   simp only [BS,LB,ab,Nat.reduceLT,Nat.reduceEqDiff,Tryz.FFh3157,l0]
   exact S.gr
 . constructor
   . intro e
     rw [List.length_eq_zero_iff.1 e]at hc
     exact hc.nil
   . intro e
     cases l with
     |nil=>rfl
     | cons x l=>
       have:=(hc.2 x.id x.key).2 (by simp)
       rw [e]at this;cases this
theorem rI (ok:h0.t.Sized h0.n) (H:cy h0 F p N K) {v:Nat}:bC xX 161 [p,.int .i64 v] h0 (.tuple #[.int .i64 ((K v).getD 0),.bool (K v).isSome]):=by
 have S:=Si ok
 obtain⟨m,hlen,hm⟩:=qZ ok H
 obtain⟨bh,bm,l,rfl,ho,hc,hN,hx⟩:=H.ex
 by_cases h0':m=0
 . subst h0'
   have e:=hm.1 rfl v
   rw [e]
   refine ac (n:=32) (rs:=[.tmp 4,.tmp 5]) rfl Tryz.e161 rfl rfl rfl (lbt rfl) ?_
   simp only [BS,LB,Nat.reduceLT,Nat.reduceEqDiff]
   refine ar (hlen) ?_;intro h g;replace S:=S.call g;clear g
   simp only [BS,LB,ab,Nat.reduceLT,Nat.reduceEqDiff,yb]
   exact⟨rfl,S.gr⟩
 . have hm0: ¬((m:Int)=0):=by omega
   rcases hx with⟨rfl,_⟩|⟨bl,cap,_,R⟩
   . exact absurd (hm.2 hc.nil) h0'
   . refine ac (n:=32) (rs:=[.tmp 4,.tmp 5]) rfl Tryz.e161 rfl rfl rfl (lbt rfl) ?_
     simp only [BS,LB,Nat.reduceLT,Nat.reduceEqDiff]
     refine ar (hlen) ?_;intro h g;replace S:=S.call g;replace R:=R.gr g;clear g
     obtain⟨cs,es,c,f,hcs,hmp,C,MI,IF⟩:=R.ex
     have r0:=R.row.load1 (o:=0) rfl
     have r1:=R.row.load1 (o:=1) rfl
     have lk:=og (x:=(v:Int)) yG yQ (z:=.int .i64 0) (by kernel_rfl) hmp MI
     cases hk:K v with
     | none=>
       have fv:f v=none:=by
        cases hf:f v with
        |none=>rfl
        | some w=>
          obtain⟨i,hi,e⟩:=IF.2 v w hf
          have:=hc.at hi
          rw [show(l.getD i default).id=v by omega,hk]at this;cases this
       rw [fv]at lk
       simp only [BS,LB,ab,Nat.reduceLT,Nat.reduceEqDiff,Tryz.FFh3161,hm0,r1,lk,zd,yv]
       exact S.gr
     | some k=>
       obtain⟨i,hi,e⟩:=hc.idx hk
       have fv:f v=some (.int .i64 i):=by have:=IF.1 i hi;rwa [e]at this
       rw [fv]at lk
       have l1:=C.ld1 hcs hi
       rw [e]at l1
       simp only [BS,LB,ab,Nat.reduceLT,Nat.reduceEqDiff,Tryz.FFh3161,hm0,r0,r1,lk,Option.getD_some,hi,l1]
       exact S.gr
theorem mP(ok:h0.t.Sized h0.n)(H:cy h0 F p N K){v:Nat}(hv:v<N)(hN:N<=1000)(hk:K v=none){k:Int}:
 Ret xX 131 [p,.int .i64 v,.int .i64 k] h0 fun r h'=>Mo (· ∈F) h0 h'/\ ∃F',cy h' F' p N (ca K v (some k))/\ ∀b∈F',b∈F\/h0.n<=b:=by
 obtain⟨bh,bm,l,rfl,ho,hc,hlt,hx⟩:=H.ex
 have hll:=qt hc hlt
 have c1: ¬((v:Int)<0):=by omega
 have c2: ¬((N:Int)<=(v:Int)):=by omega
 have hn:=hc.free hk
 rcases hx with⟨rfl,rfl,hne,hr,es,c,hmp,MI⟩|⟨bl,cap,rfl,R⟩
 . have S:=St.init2 (M:=(· ∈[bh,bm])) ok (o1:=.row _ 1) (o2:=.map es c) hr hmp hne (by simp) (by simp)
   have lk:=og (x:=(v:Int)) yG yQ (z:=.int .i64 0) (by kernel_rfl) hmp MI
   refine ac (n:=71) (rs:=[.tmp 6]) rfl Tryz.e131 rfl rfl rfl (lbt rfl) ?_
   simp only [BS,LB,Nat.reduceLT,Nat.reduceEqDiff,Tryz.FFh3131,lk,c1,c2,zd,yv,S.ld (b:=bh) (o:=1) m0 rfl,S.ld (b:=bh) (o:=2) m0 rfl]
   refine aC (aH rfl) (q:=0) (ps:=[]) (by kernel_rfl) ?_
   simp only [BS,LB,cls,Nat.reduceLT,Nat.reduceEqDiff,Nat.reduceAdd,Nat.reducePow,Nat.reduceDiv,Nat.reduceMod,Nat.reduceLeDiff,yb,Tryz.FFh3131,S.ld (b:=bh) (o:=0) m0 rfl,S.ld (b:=bh) (o:=1) m0 rfl]
   refine c5 (S.mputI (i:=1) rfl yG yQ MI _) ?_
   clear S;rintro h ⟨_,es',c',MI',S⟩
   simp only [LC]at S
   simp only [BS,LB,Nat.reduceLT,Nat.reduceEqDiff,Nat.reduceAdd,Tryz.FFh3131,S.ld (b:=bh) (o:=0) m0 rfl,S.ld (b:=bh) (o:=1) m0 rfl]
   refine ae (bL (by exact zh) (by exact zo) (by decide) (by rfl)) S ?_;clear S;intro h bs S n_bs;simp only [LC,aU,bI,ag,Nat.reduceMul,Nat.reduceAdd,yF,yz,ym,yZ]at S
   simp only [BS,LB,Nat.reduceLT,Nat.reduceEqDiff,S.ld (b:=bh) (o:=0) m1 rfl,S.ld (b:=bh) (o:=1) m1 rfl]
   have src:aO h 2 (.slice (some ⟨bs,0,none⟩) 1 1)=some (1,jo ⟨v,k⟩):=by simp only [aO];rw [S.lds (b:=bs) (o:=0) (n:=1*2) m0 (lbt rfl)];rfl
   replace S:=S.drop1
   refine eK (S.appH0 zh zo (by decide) (by decide) Tryz.n246 src) ?_
   clear S src;rintro h w ⟨bl,cap,cs,rfl,S,C,hbl⟩
   simp only [BS,LB,Nat.reduceLT,Nat.reduceEqDiff,Tryz.FFh3131]
   refine az (aB S (i:=1) rfl ?_ ?_ ?_ ono) ?_
   . exact(by simp only [Tryz.FFh3131])
   . exact(by exact aW)
   . exact yl (lbt rfl)
   clear S;rintro h ⟨S,mo⟩;clear mo;simp only [LC,ag,lay,yq,yr,Nat.reduceAdd]at S
   simp only [BS]
   refine aC (aH rfl) (q:=0) (ps:=[]) (by kernel_rfl) ?_
   simp only [BS,LB,cls,Nat.reduceLT,Nat.reduceEqDiff,Nat.reduceAdd,Nat.reducePow,Nat.reduceDiv,Nat.reduceMod,Nat.reduceLeDiff,Int.reduceSub,yb,Tryz.FFh3131,S.ld (b:=bh) (o:=0) m1 rfl,S.ld (b:=bh) (o:=1) m1 rfl]
   have R:ef h bh bl bm cap N ([]++[⟨v,k⟩]):=S.rowS C rfl MI' (idxF_nil.push hn)
   have w0:au .i64 0=((0:Nat):Int):=rfl
   rw [w0]
   refine dg (up_ok S.ok R (i:=0) (by simp) (by simp) (si ho ⟨v,k⟩)) ?_
   have own0:=(S.own _ m0).1
   rintro r h ⟨f,l',R',pm,ho'⟩
   simp only [BS,LB,Nat.reduceLT,Nat.reduceAdd,yb]
   refine⟨S.fr.trans f (fun c hc=>?_),[bh,bl,bm],⟨bh,bm,l',rfl,ho',(hc.push hk k).perm pm,fun x hx=>?_,.inr ⟨bl,cap,rfl,R'⟩⟩,fun b hb=>?_⟩
   . rcases hc with rfl|rfl
     . exact own0.symm
     . exact .inl (by simp)
   . have:=pm.mem_iff.1 hx
     simp at this;subst this;exact hv
   . simp at hb
     rcases hb with rfl|rfl|rfl
     . exact .inl (by simp)
     . exact own0.symm
     . exact .inl (by simp)
 . obtain⟨cs,es,c,f,hcs,hmp,C,MI,IF⟩:=R.ex
   have S:=St.init3 (M:=(· ∈[bh,bl,bm])) ok (o1:=.row cs 1) (o2:=.row _ 1) (o3:=.map es c) hcs R.row hmp R.ne.1.symm R.ne.2.2 R.ne.2.1 (by simp) (by simp) (by simp)
   have lk:=og (x:=(v:Int)) yG yQ (z:=.int .i64 0) (by kernel_rfl) hmp MI
   have fv:f v=none:=by
    cases hf:f v with
    |none=>rfl
    | some w=>
      obtain⟨i,hi,e⟩:=IF.2 v w hf
      have:=hc.at hi
      rw [show(l.getD i default).id=v by omega,hk]at this;cases this
   rw [fv]at lk
   refine ac (n:=71) (rs:=[.tmp 6]) rfl Tryz.e131 rfl rfl rfl (lbt rfl) ?_
   simp only [BS,LB,Nat.reduceLT,Nat.reduceEqDiff,Tryz.FFh3131,lk,c1,c2,zd,yv,S.ld (b:=bh) (o:=1) m1 rfl,S.ld (b:=bh) (o:=2) m1 rfl]
   refine aC (aH rfl) (q:=0) (ps:=[]) (by kernel_rfl) ?_
   simp only [BS,LB,cls,Nat.reduceLT,Nat.reduceEqDiff,Nat.reduceAdd,Nat.reducePow,Nat.reduceDiv,Nat.reduceMod,Nat.reduceLeDiff,Tryz.FFh3131,S.ld (b:=bh) (o:=0) m1 rfl,S.ld (b:=bh) (o:=1) m1 rfl]
   refine c5 (S.mputI (i:=2) rfl yG yQ MI _) ?_
   clear S;rintro h ⟨_,es',c',MI',S⟩
   simp only [LC]at S
   simp only [BS,LB,Nat.reduceLT,Nat.reduceEqDiff,Nat.reduceAdd,Tryz.FFh3131,S.ld (b:=bh) (o:=0) m1 rfl,S.ld (b:=bh) (o:=1) m1 rfl]
   refine ae (bL (by exact zh) (by exact zo) (by decide) (by rfl)) S ?_;clear S;intro h bs S n_bs;simp only [LC,aU,bI,ag,Nat.reduceMul,Nat.reduceAdd,yF,yz,ym,yZ]at S
   simp only [BS,LB,Nat.reduceLT,Nat.reduceEqDiff,S.ld (b:=bh) (o:=0) m2 rfl,S.ld (b:=bh) (o:=1) m2 rfl]
   have src:aO h 2 (.slice (some ⟨bs,0,none⟩) 1 1)=some (1,jo ⟨v,k⟩):=by simp only [aO];rw [S.lds (b:=bs) (o:=0) (n:=1*2) m0 (lbt rfl)];rfl
   replace S:=S.drop1
   refine eK (S.appH C zh zo (by decide) (by decide) Tryz.n246 src (by omega)) ?_
   clear S src;rintro h w ⟨bl',cap',cs',rfl,S,C',hbl⟩
   simp only [BS,LB,Nat.reduceLT,Nat.reduceEqDiff,Tryz.FFh3131]
   refine az (aB S (i:=1) rfl ?_ ?_ ?_ ono) ?_
   . exact(by simp only [Tryz.FFh3131])
   . exact(by exact aW)
   . exact yl (lbt rfl)
   clear S;rintro h ⟨S,mo⟩;clear mo;simp only [LC,ag,lay,yq,yr,Nat.reduceAdd]at S
   simp only [BS]
   refine aC (aH rfl) (q:=0) (ps:=[]) (by kernel_rfl) ?_
   have w0:au .i64 (((l.length+1:Nat):Int)-1)=((l.length:Nat):Int):=by rw [wrap64]<;>omega
   simp only [BS,LB,cls,Nat.reduceLT,Nat.reduceEqDiff,Nat.reduceAdd,Nat.reducePow,Nat.reduceDiv,Nat.reduceMod,Nat.reduceLeDiff,Tryz.FFh3131,w0,S.ld (b:=bh) (o:=0) m1 rfl,S.ld (b:=bh) (o:=1) m1 rfl]
   have R:ef h bh bl' bm cap' N (l++[⟨v,k⟩]):=S.rowS C' (by simp) MI' (IF.push hn)
   refine dg (up_ok S.ok R (i:=l.length) (by simp) (by simp;omega) (si ho ⟨v,k⟩)) ?_
   have own0:=(S.own _ m0).1
   rintro r h ⟨f,l',R',pm,ho'⟩
   simp only [BS,LB,Nat.reduceLT,Nat.reduceAdd]
   refine⟨S.fr.trans f (fun c hc=>?_),[bh,bl',bm],⟨bh,bm,l',rfl,ho',(hc.push hk k).perm pm,fun x hx=>?_,.inr ⟨bl',cap',rfl,R'⟩⟩,fun b hb=>?_⟩
   . rcases hc with rfl|rfl
     . exact own0.symm
     . exact .inl (by simp)
   . have:=pm.mem_iff.1 hx
     simp at this
     rcases this with h|rfl
     . exact hlt x h
     . exact hv
   . simp at hb
     rcases hb with rfl|rfl|rfl
     . exact .inl (by simp)
     . exact own0.symm
     . exact .inl (by simp)
theorem oD(ok:h0.t.Sized h0.n)(H:cy h0 F p N K){v:Nat}(hN:N<=1000){k0 k:Int}(hk:K v=some k0)(hle:k<=k0):
 Ret xX 162 [p,.int .i64 v,.int .i64 k] h0 fun r h'=>Mo (· ∈F) h0 h'/\cy h' F p N (ca K v (some k)):=by
 obtain⟨bh,bm,l,rfl,ho,hc,hlt,hx⟩:=H.ex
 have hll:=qt hc hlt
 obtain⟨i,hi,ei⟩:=hc.idx hk
 have hv:v<N:=by
  have:=hlt (l.getD i default) (by rw [xW,yA hi];exact yM hi)
  rwa [ei]at this
 have c1: ¬((v:Int)<0):=by omega
 have c2: ¬((N:Int)<=(v:Int)):=by omega
 have c3: ¬(k0<k):=by omega
 rcases hx with⟨rfl,_⟩|⟨bl,cap,rfl,R⟩
 . simp at hi
 . obtain⟨cs,es,c,f,hcs,hmp,C,MI,IF⟩:=R.ex
   have S:=St.init3 (M:=(· ∈[bh,bl,bm])) ok (o1:=.row cs 1) (o2:=.row _ 1) (o3:=.map es c) hcs R.row hmp R.ne.1.symm R.ne.2.2 R.ne.2.1 (by simp) (by simp) (by simp)
   have lk:=og (x:=(v:Int)) yG yQ (z:=.int .i64 0) (by kernel_rfl) hmp MI
   have fv:f v=some (.int .i64 i):=by have:=IF.1 i hi;rwa [ei]at this
   rw [fv]at lk
   have l1:=C.ld1 hcs hi
   have clen:=C.len
   have cle:=C.le
   have ek:(l.getD i default).key=k0:=by rw [ei]
   have ev:(l.getD i default).id=v:=by rw [ei]
   rw [ek]at l1
   refine ac (n:=61) (rs:=[.tmp 6]) rfl Tryz.e162 rfl rfl rfl (lbt rfl) ?_
   simp only [BS,LB,Nat.reduceLT,Nat.reduceEqDiff,Tryz.FFh3162,lk,c1,c2,c3,hi,l1,Option.getD_some,S.ld (b:=bh) (o:=0) m1 rfl,S.ld (b:=bh) (o:=1) m1 rfl,S.ld (b:=bh) (o:=2) m1 rfl]
   refine az (S.store (i:=0) (off:=i*2+1) rfl zD (by intro x e;cases e) rfl rfl (by omega) ono) ?_
   clear S;rintro h ⟨S,_⟩
   simp only [LC,ag]at S
   have C1:=C.setKey hi k
   generalize lay cs (i*2+1) _=cs1 at S C1
   simp only [BS,LB,Nat.reduceLT,Nat.reduceEqDiff,Tryz.FFh3162,S.ld (b:=bh) (o:=0) m1 rfl,S.ld (b:=bh) (o:=1) m1 rfl]
   have R1:ef h bh bl bm cap N (l.set i ⟨(l.getD i default).id,k⟩):=S.rowS C1 (by rw [yd]) MI (IF.setKey k)
   refine step_ret (up_ok S.ok R1 (i:=i) (by rw [yd];exact hi) (by rw [yd];omega) (xo ho (by unfold Ab.hle;simp only [];omega))) ?_
   rintro r h ⟨f,l',R',pm,ho'⟩
   simp only [BS,Nat.reduceLT]
   have hc':=hc.lower hi k
   rw [ev]at hc'
   refine⟨S.fr.trans f (fun c hc=>?_),⟨bh,bm,l',rfl,ho',(by rw [ev]at pm;exact hc'.perm pm),fun x hx=>?_,.inr ⟨bl,cap,rfl,R'⟩⟩⟩
   . rcases hc with rfl|rfl<;>exact .inl (by simp)
   . have:=pm.mem_iff.1 hx
     rcases List.mem_or_eq_of_mem_set this with h|rfl
     . exact hlt x h
     . rw [ev];exact hv
end
end Go.Ab

end
section
namespace Go.Ab
open Go.Proofs
set_option maxRecDepth 10000
open Tryz in
def Tryz.FFh4132:=aj a1<|aj s1<|aj z1<|aj n1<|aj u2<|aj a2<|aj s2<|aj z2<|aj i2<|aj u3<|aj a3<|aj s3<|aj z3<|aj i3<|aj u4<|aj a4<|aj s4<|aj z4<|aj n4<|aj u5<|aj a5<|aj s5<|aj z5<|aj i5<|aj u6<|aj a6<|aj s6<|aj z6<|aj i6<|aj a7<|aj s7<|aj z7<|aj i7<|aj n7<|aj p7<|aj ff7<|aj d7<|aj a8<|aj s8<|aj z8<|aj i8<|aj n8<|aj p8<|aj ff8<|aj d8<|aj u153<|aj a153<|aj s153<|aj z153<|aj n153<|aj u203<|aj a203<|aj s203<|aj z203<|aj q203<|aj i203<|aj n203<|aj u246<|aj a246<|aj s246<|aj z246<|aj q246<|aj n246<|aj a248<|aj s248<|aj z248<|aj i248<|aj n248<|aj p248<|aj ff248<|aj d248<|aj a250<|aj s250<|aj z250<|aj i250<|aj n250<|aj p250<|aj ff250<|aj d250<|aj a255<|aj s255<|aj z255<|aj i255<|aj n255<|aj p255<|aj ff255<|d255
section
variable{h0:Hp}{F:List Nat}{p:Value}{N:Nat}{K:Nat->Option Int}
theorem qK(ok:h0.t.Sized h0.n)(H:cy h0 F p N K)(hN:N<=1000):
 Ret xX 132 [p] h0 fun r h'=>(r=.tuple #[.int .i64 0,.int .i64 0,.bool false]/\(∀v,K v=none)/\Gr h0 h')\/ ∃v k,r=.tuple #[.int .i64 (v:Nat),.int .i64 k,.bool true]/\K v=some k/\(∀u k',K u=some k'->k<k'\/(k=k'/\v<=u))/\Mo (· ∈F) h0 h'/\cy h' F p N (ca K v none):=by
 obtain⟨m,hlen,hm⟩:=qZ ok H
 obtain⟨bh,bm,l,rfl,ho,hc,hlt,hx⟩:=H.ex
 have hll:=qt hc hlt
 by_cases h0':m=0
 . subst h0'
   have S:=Si ok
   refine ac (n:=55) (rs:=[.tmp 2,.tmp 3,.tmp 4]) rfl Tryz.e132 rfl rfl rfl (lbt rfl) ?_
   simp only [BS,LB,Nat.reduceLT,Nat.reduceEqDiff]
   refine ar (hlen) ?_;intro h g;replace S:=S.call g;clear g
   simp only [BS,LB,ab,Nat.reduceLT,Nat.reduceEqDiff,yb]
   exact .inl ⟨hm.1 rfl,S.gr⟩
 . have hm0: ¬((m:Int)=0):=by omega
   rcases hx with⟨rfl,_⟩|⟨bl,cap,rfl,R⟩
   . exact absurd (hm.2 hc.nil) h0'
   . have hpos:0<l.length:=by
      cases l with
      |nil=>exact absurd (hm.2 hc.nil) h0'
      |cons x l=>simp
     have S:=Si ok
     refine ac (n:=55) (rs:=[.tmp 2,.tmp 3,.tmp 4]) rfl Tryz.e132 rfl rfl rfl (lbt rfl) ?_
     simp only [BS,LB,Nat.reduceLT,Nat.reduceEqDiff]
     refine ar (hlen) ?_;intro h g;replace S:=S.call g;replace R:=R.gr g;clear g
     have g0:=S.gr
     clear S
     obtain⟨cs,es,c,f,hcs,hmp,C,MI,IF⟩:=R.ex
     have r0:=R.row.load1 (o:=0) rfl
     have l2:=C.ld2 hcs hpos
     have S:=Si g0.ok
     have i0:fK (.int .i64 0) l.length=some 0:=iN (i:=0) hpos
     have w1:au .i64 ((l.length:Int)-1)=((l.length-1:Nat):Int):=by rw [wrap64]<;>omega
     simp only [BS,LB,Nat.reduceLT,Nat.reduceEqDiff,hm0]
     refine aC (mL (ord:=[14,0,1,2,3,4,5,6,7,8,9,10,11,12,13,15,16]) rfl rfl (by simp only [fh,reix,fj,List.getElem?_cons_zero,List.getElem?_cons_succ,List.map_toArray,yi,zz,Nat.reduceBEq,cond_true,cond_false];exact rfl)) (q:=1) (ps:=[(13,15),(12,15)]) (by kernel_rfl) ?_
     simp only [BS,LB,cls,Nat.reducePow,Nat.reduceDiv,Nat.reduceMod,Nat.reduceLeDiff,Tryz.FFh4132]
     refine dt aw S ?_;clear S;intro h b5 S n_b5 e_b5
     simp only [BS,LB,cls,Nat.reduceLT,Nat.reduceEqDiff,Nat.reduceAdd,Nat.reducePow,Nat.reduceDiv,Nat.reduceMod,Nat.reduceLeDiff,Tryz.FFh4132,S.old r0 (fun h=>h),S.old l2 (fun h=>h),i0,w1]
     refine c5 (S.store (i:=0) rfl ?_ ?_ rfl rfl ?_ ono) ?_
     . exact(by exact Tryz.s248)
     . exact(by intro x e;cases e)
     . exact lbt rfl
     clear S;rintro h ⟨S,mo⟩;clear mo;simp only [LC,ag,lay,yq,yr,Nat.reduceAdd]at S
     simp only [BS,LB,cls,Nat.reduceLT,Nat.reduceEqDiff,Nat.reduceAdd,Nat.reducePow,Nat.reduceDiv,Nat.reduceMod,Nat.reduceLeDiff,Tryz.FFh4132,S.old r0 (fun h=>h),S.old l2 (fun h=>h)]
     have g1:=S.gr
     have R1:=R.gr g1
     have l5:=S.lds (b:=b5) (o:=0) (n:=2) m0 (lbt rfl)
     have lt1:=R.lt g0.ok
     have nb:b5≠bh:=fun e=>by have:=lt1 bh (.inl rfl);omega
     have nb2:b5≠bl:=fun e=>by have:=lt1 bl (.inr (.inl rfl));omega
     refine⟨by simp only [aX,bu,aS,bz,aT,ne_eq,not_false_eq_true,bF,bJ,bA,aY,bK,cD,aK,Nat.reduceLT,Nat.reduceEqDiff,reduceIte,zq,ah,jQ,note_len,iG nb,iG nb.symm,iG nb2,iG nb2.symm],?_⟩
     have sw:Ret xX 158 [ptrTo bh,.int .i64 0,.int .i64 ((l.length-1:Nat):Int)] _ _:=pq S.ok R1 (i:=0) (k:=l.length-1) hpos (by omega)
     refine step_ret sw ?_
     --refine step_ret (pq S.ok R1 (i := 0) (k := l.length - 1) hpos (by omega)) ?_
     rintro r hA ⟨fA,R2⟩
     have gg:Gr h0 h:=g0.trans g1
     have mA:Mo (· ∈[bh,bl,bm]) h0 hA:=(gg.fr (M:=(· ∈[bh,bl,bm]))).trans fA (fun c hc=>.inl (by rcases hc with rfl|rfl<;>simp))
     have l5A:hA.load b5 0 2=some [.int .i64 (l.getD 0 default).id,.int .i64 (l.getD 0 default).key]:=by
      have:=fA.get b5 (bg fA.ok0 l5) (fun hM=>by have:=lt1 b5 (.inr hM);omega)
      unfold Hp.load at l5⊢
      rw [this];exact l5
     have lt2:=R2.lt mA.ok
     have okA:=mA.ok
     have b5lt:=bg mA.ok l5A
     clear S R R1 fA sw hcs hmp C MI IF l5 l2 r0
     obtain⟨cs,es,c,f,hcs,hmp,C,MI,IF⟩:=R2.ex
     have S:=St.init3 (M:=(· ∈[bh,bl,bm])) (h:=hA) okA (o1:=.row cs 1) (o2:=.row _ 1) (o3:=.map es c) hcs R2.row hmp R2.ne.1.symm R2.ne.2.2 R2.ne.2.1 (by simp) (by simp) (by simp)
     have sl:=uR (kd:=.i64) (b:=bl) (len:=(sw l 0 (l.length-1)).length) (n:=l.length-1) zh Tryz.s255 (cap:=cap) (by have:=C.le;rw [fO]at this;omega)
     simp only [BS,LB,Nat.reduceLT,Nat.reduceEqDiff,yV,zi,Tryz.FFh4132,sl,S.ld (b:=bh) (o:=0) m1 rfl,S.ld (b:=bh) (o:=1) m1 rfl]
     refine az (aB S (i:=1) rfl ?_ ?_ ?_ ono) ?_
     . exact(by simp only [Tryz.FFh4132])
     . exact(by exact aW)
     . exact yl (lbt rfl)
     clear S;rintro h ⟨S,mo⟩;clear mo;simp only [LC,ag,lay,yq,yr,Nat.reduceAdd]at S
     simp only [BS,S.ld (b:=bh) (o:=0) m1 rfl,S.ld (b:=bh) (o:=1) m1 rfl]
     refine aC (aH rfl) (q:=0) (ps:=[]) (by kernel_rfl) ?_
     have nM5: ¬b5∈[bh,bl,bm]:=fun hm=>by
      have:=lt1 b5 (by simpa using hm)
      omega
     have l5a:hA.load b5 0 1=some [.int .i64 (l.getD 0 default).id]:=by have:=kB l5A (i:=0) (m:=1) (by omega);simpa using this
     have l5b:hA.load b5 1 1=some [.int .i64 (l.getD 0 default).key]:=by have:=kB l5A (i:=1) (m:=1) (by omega);simpa using this
     simp only [BS,LB,cls,Nat.reduceLT,Nat.reduceEqDiff,Nat.reduceAdd,Nat.reducePow,Nat.reduceDiv,Nat.reduceMod,Nat.reduceLeDiff,Tryz.FFh4132,S.old l5a nM5,S.ld (b:=bh) (o:=1) m1 rfl]
     refine dn_del (S.mdelI (i:=2) rfl yG yQ MI) ?_
     clear S;rintro h ⟨_,es',c',MI',S⟩
     simp only [LC]at S
     simp only [BS,LB,Nat.reduceLT,Nat.reduceEqDiff,Nat.reduceAdd,Tryz.FFh4132]
     have slen:(sw l 0 (l.length-1)).length=l.length:=fO _ _ _
     have elast:=gJ l (i:=0) (k:=l.length-1) hpos (by omega) (l.length-1)
     rw [if_pos rfl]at elast
     have IF':=IF.cut (m:=l.length-1) (by omega)
     rw [elast]at IF'
     have tl:((sw l 0 (l.length-1)).take (l.length-1)).length=l.length-1:=by rw [yB,slen];omega
     have R3:ef h bh bl bm cap N ((sw l 0 (l.length-1)).take (l.length-1)):=S.rowS (C.take _) tl.symm MI' IF'
     have dn:Ret xX 159 [ptrTo bh,.int .i64 0] h _:=down_ok S.ok R3 (i:=0) (by
      by_cases e:l.length-1=0
      . exact .inr ⟨List.length_eq_zero_iff.1 (by rw [tl,e]),rfl⟩
      . exact .inl (by omega)) (by omega) (heap_pop ho hpos)
     refine step_ret dn ?_
     rintro r h ⟨fB,l',R',pm,ho'⟩
     have mB:Mo (· ∈[bh,bl,bm]) hA h:=S.fr.trans fB (fun c hc=>.inl (by rcases hc with rfl|rfl<;>simp))
     have l5c: ∀{o x},hA.load b5 o 1=some x->h.load b5 o 1=some x:=fun e=>by
      have:=mB.get b5 b5lt nM5
      unfold Hp.load at e⊢
      rw [this];exact e
     simp only [BS]
     refine aC (aH rfl) (q:=0) (ps:=[]) (by kernel_rfl) ?_
     simp only [BS,LB,cls,ab,Nat.reduceLT,Nat.reduceEqDiff,Nat.reduceAdd,Nat.reducePow,Nat.reduceDiv,Nat.reduceMod,Nat.reduceLeDiff,Tryz.FFh4132,l5c l5a,l5c l5b]
     refine .inr ⟨(l.getD 0 default).id,(l.getD 0 default).key,rfl,hc.at hpos,fun u k' hu=>?_,mA.trans mB (fun c hc=>.inl hc),⟨bh,bm,l',rfl,ho',(hc.pop hpos).perm pm,fun x hx=>?_,.inr ⟨bl,cap,rfl,R'⟩⟩⟩
     . obtain⟨j,hj,e⟩:=hc.idx hu
       have:=heap_min ho j hj
       rw [e]at this
       unfold Ab.hle at this
       simp only []at this
       omega
     . exact hlt x ((pb l hpos (by omega)).mem_iff.1 (List.mem_of_mem_take (pm.mem_iff.1 hx)))
end
end Go.Ab

end
section
namespace Go.Ab
def pL(E:Env)(g:FuncId)(pre post:List Value)(h0:Hp)(D:Nat->Prop)(xs:List (List Value)):Prop:=
 ∀lb J Z,(∀v h,¬Z (.pan v) h)->Yld E lb J Z xs-> ∀h F,ItS h0 D h F->J 0 h F->eN E g (pre++[.func (.yield lb) #[] #[]]++post) none h (YQ J Z xs.length)
theorem iter_useN{E:Env}{g:FuncId}{pre post:List Value}{h0:Hp}{D:Nat->Prop}{xs:List (List Value)}(H:pL E g pre post h0 D xs){lb:Nat}{J:Nat->Hp->List Nat->Prop}{Z:Out->Hp->Prop}(hz: ∀v h,¬Z (.pan v) h)(Y:Yld E lb J Z xs)
 {h:Hp} {F:List Nat} (g0:Mo (fun b=> ¬D b) h0 h) (ha: ∀b∈F,b<h0.n-> ¬D b) (hj:J 0 h F):eN E g (pre++[.func (.yield lb) #[] #[]]++post) none h (YQ J Z xs.length):=
 H lb J Z hz Y h F ⟨g0.ok,g0.n,fun b hb hd=>g0.get b hb (fun hn=>hn hd),fun b hb h=>ha b hb h.1 h.2,(Y.lt 0 h F hj).2⟩ hj
theorem dn_yield{E:Env}{cx:Cx}{Q:dW}{a:List Oper}{q:Nat}{ps:List (Nat×Nat)}{o:Oper}{os:List Oper}{i:Nat}{k:List Fr}{l:Loc}{tf:Hp->List (Nat×Tch)}{h0 h:Hp}{D:Nat->Prop}{lb j:Nat}{J:Nat->Hp->List Nat->Prop}{Z:Out->Hp->Prop}{xs:List (List Value)}{x:List Value}{F:List Nat}
 (hz: ∀v h,¬Z (.pan v) h) (Y:Yld E lb J Z xs) (s:ItS h0 D h F) (hj:J j h F) (hx:xs[j]? =some x)
 (k1: ∀h' F',J (j+1) h' F'->ItS h0 D h' F'->Mo (· ∈F) h h'->(∀b∈F',b∈F\/h.n<=b)->Run E (lim E) cx Q (.opsD a q ps os (i+1) (tf h')::k) .normal (l.put o.dst (.bool true)) h')
 (k2: ∀h',Z (.ret (.bool false)) h'->h'.t.Sized h'.n->Run E (lim E) cx Q (.opsD a q ps os (i+1) (tf h')::k) .normal (l.put o.dst (.bool false)) h'):DN E cx Q a q ps o os i k l tf (some (.yield lb x,h)):=by
 obtain⟨q',h',e1,e2⟩:=Y.round j x h F hx hj
 refine⟨q',h',e1,?_⟩
 rcases e2 with⟨rfl,F',a,b,c⟩|⟨rfl,a,b⟩|⟨⟨v,rfl⟩,a⟩
 . exact k1 h' F' a (s.mo b c (Y.lt _ _ _ a).2) b c
 . exact k2 h' a b
 . exact hz v h' a
def gU(h h':Hp):Prop:= ∀b,b<h.n->h'.get b=h.get b
theorem gU.load{h h':Hp}(ok:h.t.Sized h.n)(g:gU h h'){b o n:Nat}{l:List Value}(e:h.load b o n=some l):h'.load b o n=some l:=by
 have:=g b (bg ok e)
 unfold Hp.load at e⊢
 rw [this];exact e
theorem gU.row{h h':Hp}(ok:h.t.Sized h.n)(g:gU h h'){b:Nat}{l:List Value}{md:Nat}(r:Row h b l md):Row h' b l md:=Row.of_get (g b (r.lt ok)) r
theorem aA.keep{α:Type}{h h':Hp}{k:Nat}{enc:α->List Value}{v:Value}{xs:List α}(ok:h.t.Sized h.n)(g:gU h h')(s:aA h k enc v xs):aA h' k enc v xs:=by
 rcases s with s|⟨b,o,s,c,h1,h2,h3⟩
 . exact .inl s
 . exact .inr ⟨b,o,s,c,h1,h2,g.load ok h3⟩
theorem ff.keep{h h':Hp}{v:Value}{m N:Nat}{R:Nat->List Nat}(ok:h.t.Sized h.n)(g:gU h h')(r:ff h m v N R):ff h' m v N R:=by
 obtain⟨bv,vs,h1,h0,h2,h3,h4⟩:=r
 exact⟨bv,vs,h1,h0,g.row ok h2,h3,fun i hi=>by
  obtain⟨w,a,b,c⟩:=h4 i hi
  exact⟨w,a,b.keep ok g,c⟩⟩
theorem bT.keep{h h':Hp}{m:Nat}{p:Value}{γ:Gra}(ok:h.t.Sized h.n)(g:gU h h')(n:bT h m p γ):bT h' m p γ:=by
 obtain⟨b,vx,vy,va,vo,vi,h1,h2,h3,h4,h5,h6,h7⟩:=n.ex
 exact⟨b,vx,vy,va,vo,vi,h1,g.row ok h2,⟨h3.X.keep ok g,h3.Y.keep ok g,h3.A.keep ok g⟩,h4.keep ok g,h5.keep ok g,h6,h7⟩
theorem Gr.keep{h h':Hp}(g:Gr h h'):gU h h':=g.get
theorem gU.trans{a b c:Hp}(x:gU a b)(n:a.n<=b.n)(y:gU b c):gU a c:=fun i hi=>(y i (y5 hi n)).trans (x i hi)
theorem ItS.keep{hq h0 h:Hp}{D:Nat->Prop}{F:List Nat}(s:ItS h0 D h F)(g:gU hq h0)(n:hq.n<=h0.n)(hd: ∀c,c<hq.n->D c):gU hq h:=fun b hb=>(s.data b (y5 hb n) (hd b hb)).trans (g b hb)
theorem qJ{n:Int}(h1:0<=n)(h2:n<18446744073709551616):au .u64 n=n:=by
 obtain⟨m,rfl⟩:=Int.eq_ofNat_of_zero_le h1
 show au .u64 (.ofNat m)=_
 unfold au
 simp only [hf,sgn,pw]
 have:Nat.blt m 18446744073709551616=true:=by rw [zn];omega
 rw [this];rfl
theorem b_andU{E:Env}{t:TypeId}{x y:Operand}{N:Nat}(h:N<4294967296):bD E .and t x y (.int .u64 (N:Int)) (.int .u64 4294967295)=some (.int .u64 (N:Int)):=by
 have e1:Nat.blt N 18446744073709551616=true:=by rw [zn];omega
 have e2:Nat.land N 4294967295=N:=by
  have:=Nat.and_two_pow_sub_one_eq_mod N 32
  rw [show(2 ^32-1:Nat)=4294967295 from rfl,show(2 ^32:Nat)=4294967296 from rfl,Nat.mod_eq_of_lt h]at this
  exact this
 have e3:=qJ (n:=(N:Int)) (by omega) (by omega)
 have e4:om .and .u64 (.ofNat N) (.ofNat 4294967295)=some (au .u64 (.ofNat (Nat.land N 4294967295))):=by
  simp only [om,pw]
  rw [e1];rfl
 show(om .and .u64 (.ofNat N) (.ofNat 4294967295)).map _=_
 rw [e4,e2]
 show some (Value.int .u64 (au .u64 (N:Int)))=_
 rw [e3]
theorem b_shrU{E:Env}{t:TypeId}{x y:Operand}{kd:IntKind}{N:Nat}(h:N<4294967296):bD E .shr t x y (.int .u64 (N:Int)) (.int kd 32)=some (.int .u64 0):=by
 have e:N/Nat.pow 2 (bif yY 32 (bitsOf .u64)then 32 else bitsOf .u64)=0:=by
  show N/4294967296=0
  exact Nat.div_eq_of_lt h
 show(oJ .shr .u64 (.ofNat N) (.ofNat 32)).map _=_
 show some (Value.int .u64 (.ofNat (N/Nat.pow 2 (bif yY 32 (bitsOf .u64)then 32 else bitsOf .u64))))=_
 rw [e];rfl
end Go.Ab

end
section
namespace Go.Ab
open Go.Proofs
set_option maxRecDepth 10000
open Tryz in
def Tryz.FFf138:=aj a1<|aj s1<|aj z1<|aj n1<|aj u2<|aj a2<|aj s2<|aj z2<|aj i2<|aj u3<|aj a3<|aj s3<|aj z3<|aj i3<|aj u4<|aj a4<|aj s4<|aj z4<|aj n4<|aj u40<|aj a40<|aj s40<|aj z40<|aj q40<|n40
open Tryz in
def Tryz.FFf137:=aj a1<|aj s1<|aj z1<|aj n1<|aj u2<|aj a2<|aj s2<|aj z2<|aj i2<|aj u3<|aj a3<|aj s3<|aj z3<|aj i3<|aj u4<|aj a4<|aj s4<|aj z4<|aj n4<|aj u25<|aj a25<|aj s25<|aj z25<|aj q25<|aj n25<|aj u28<|aj a28<|aj s28<|aj z28<|aj q28<|aj n28<|aj a30<|aj s30<|aj z30<|aj i30<|aj n30<|aj p30<|aj ff30<|aj d30<|aj u32<|aj a32<|aj s32<|aj z32<|aj q32<|aj i32<|aj n32<|aj u40<|aj a40<|aj s40<|aj z40<|aj q40<|aj n40<|aj a59<|aj s59<|aj z59<|aj i59<|aj n59<|aj p59<|aj ff59<|aj d59<|aj u146<|aj a146<|aj s146<|aj z146<|aj q146<|aj n146<|aj a148<|aj s148<|aj z148<|aj i148<|aj n148<|aj p148<|aj ff148<|d148
open Tryz in
def Tryz.FFf1148:=aj a1<|aj s1<|aj z1<|aj n1<|aj u2<|aj a2<|aj s2<|aj z2<|aj i2<|aj u3<|aj a3<|aj s3<|aj z3<|aj i3<|aj u4<|aj a4<|aj s4<|aj z4<|aj n4<|aj u28<|aj a28<|aj s28<|aj z28<|aj q28<|aj n28<|aj a59<|aj s59<|aj z59<|aj i59<|aj n59<|aj p59<|aj ff59<|d59
open Tryz in
def Tryz.FFf1135:=aj a1<|aj s1<|aj z1<|aj n1<|aj u2<|aj a2<|aj s2<|aj z2<|aj i2<|aj u3<|aj a3<|aj s3<|aj z3<|aj i3<|aj u4<|aj a4<|aj s4<|aj z4<|aj n4<|aj u40<|aj a40<|aj s40<|aj z40<|aj q40<|aj n40<|aj u146<|aj a146<|aj s146<|aj z146<|aj q146<|n146
open Tryz in
def Tryz.FFf1111:=aj a1<|aj s1<|aj z1<|aj n1<|aj u2<|aj a2<|aj s2<|aj z2<|aj i2<|aj u3<|aj a3<|aj s3<|aj z3<|aj i3<|aj u4<|aj a4<|aj s4<|aj z4<|aj n4<|aj u25<|aj a25<|aj s25<|aj z25<|aj q25<|aj n25<|aj u28<|aj a28<|aj s28<|aj z28<|aj q28<|aj n28<|aj a30<|aj s30<|aj z30<|aj i30<|aj n30<|aj p30<|aj ff30<|aj d30<|aj u32<|aj a32<|aj s32<|aj z32<|aj q32<|aj i32<|aj n32<|aj u40<|aj a40<|aj s40<|aj z40<|aj q40<|aj n40<|aj a59<|aj s59<|aj z59<|aj i59<|aj n59<|aj p59<|aj ff59<|aj d59<|aj u146<|aj a146<|aj s146<|aj z146<|aj q146<|aj n146<|aj a148<|aj s148<|aj z148<|aj i148<|aj n148<|aj p148<|aj ff148<|d148
open Tryz in
def Tryz.FFf190:=aj a1<|aj s1<|aj z1<|aj n1<|aj u2<|aj a2<|aj s2<|aj z2<|aj i2<|aj u3<|aj a3<|aj s3<|aj z3<|aj i3<|aj u4<|aj a4<|aj s4<|aj z4<|aj n4<|aj u25<|aj a25<|aj s25<|aj z25<|aj q25<|aj n25<|aj u28<|aj a28<|aj s28<|aj z28<|aj q28<|aj n28<|aj a30<|aj s30<|aj z30<|aj i30<|aj n30<|aj p30<|aj ff30<|aj d30<|aj u32<|aj a32<|aj s32<|aj z32<|aj q32<|aj i32<|aj n32<|aj u40<|aj a40<|aj s40<|aj z40<|aj q40<|aj n40<|aj u146<|aj a146<|aj s146<|aj z146<|aj q146<|aj n146<|aj a148<|aj s148<|aj z148<|aj i148<|aj n148<|aj p148<|aj ff148<|d148
open Tryz in
def Tryz.FFf188:=aj a1<|aj s1<|aj z1<|aj n1<|aj u2<|aj a2<|aj s2<|aj z2<|aj i2<|aj u3<|aj a3<|aj s3<|aj z3<|aj i3<|aj u4<|aj a4<|aj s4<|aj z4<|aj n4<|aj u25<|aj a25<|aj s25<|aj z25<|aj q25<|aj n25<|aj u28<|aj a28<|aj s28<|aj z28<|aj q28<|aj n28<|aj a30<|aj s30<|aj z30<|aj i30<|aj n30<|aj p30<|aj ff30<|aj d30<|aj u32<|aj a32<|aj s32<|aj z32<|aj q32<|aj i32<|aj n32<|aj u40<|aj a40<|aj s40<|aj z40<|aj q40<|aj n40<|aj u146<|aj a146<|aj s146<|aj z146<|aj q146<|aj n146<|aj a148<|aj s148<|aj z148<|aj i148<|aj n148<|aj p148<|aj ff148<|d148
theorem kI{h0:Hp}(ok:h0.t.Sized h0.n){α:Type}{enc:α->List Value}(he: ∀x,(enc x).length=1){v:Value}{xs:List α}(hs:aA h0 1 enc v xs)(hl:xs.length<1000000):Ret xX 38 [v] h0 fun r h'=>Gr h0 h'/\aA h' 1 enc r xs/\ ∀c,av r c->h0.n<=c:=by
 have S:=Si ok
 rcases hs with⟨rfl,rfl⟩|⟨b,o,s,c,rfl,h2,h3⟩
 . refine ac (n:=8) (rs:=[.tmp 2]) rfl Tryz.e38 rfl rfl rfl (lbt rfl) ?_
   simp only [BS,LB,ab,Nat.reduceLT,Nat.reduceEqDiff,Tryz.FFf138]
   exact⟨S.gr,.inl ⟨rfl,rfl⟩,fun c hc=>hc.elim⟩
 . refine ac (n:=8) (rs:=[.tmp 2]) rfl Tryz.e38 rfl rfl rfl (lbt rfl) ?_
   simp only [BS,LB,Nat.reduceLT,Nat.reduceEqDiff,Tryz.FFf138]
   refine ae (bL (by exact yw) (by exact yL) (by decide) (by rfl)) S ?_;clear S;intro h bb S n_bb;simp only [LC,aU,bI,ag,Nat.reduceMul,Nat.reduceAdd,yF,yz,ym,yZ]at S
   simp only [BS,LB,Nat.reduceLT,Nat.reduceEqDiff]
   refine eK (S.cloneSl (enc:=enc) (xs:=[]) yw yL (by decide) Tryz.n40 (.inr ⟨b,o,s,c,rfl,h2,S.old h3 (fun h=>h)⟩) he (by decide) (by simp only [yU,yz];omega) (S.row m0)) ?_
   rintro h' v ⟨S',g,sl,hc⟩
   simp only [BS,LB,ab,Nat.reduceLT,Nat.reduceEqDiff]
   refine⟨S'.gr,by simpa using sl,fun c h=>(hc c h).elim (fun e=>by omega) (fun e=>yn S.fr.n e)⟩
theorem cH{h0:Hp}(ok:h0.t.Sized h0.n){p:Value}{γ:Gra}{nb:Nat}(c:bT h0 nb p γ):bC xX 37 [p] h0 (.int .i64 γ.nodes):=by
 have S:=Si ok
 obtain⟨b,vx,vy,va,vo,vi,rfl,r,_⟩:=c.ex
 have l0:=r.load1 (o:=0) rfl
 refine ac (n:=10) (rs:=[.tmp 2]) rfl Tryz.e37 rfl rfl rfl (lbt rfl) ?_
 simp only [BS,LB,ab,Nat.reduceLT,Nat.reduceEqDiff,Tryz.FFf137,l0]
 exact S.gr
theorem oneArc_ok{h0:Hp}(ok:h0.t.Sized h0.n){v:Value}{A:List Arc}(hv:aA h0 3 cI v A){i:Nat}(hi:i<A.length):Ret xX 148 [v,.int .i64 i] h0 fun r h'=>Gr h0 h'/\r=.tuple #[.agg ⟨cI A[i]⟩,.bool true]:=by
 have S:=Si ok
 have c1: ¬((i:Int)<0):=by omega
 have c2: ¬((A.length:Int)<=(i:Int)):=by omega
 refine ac (n:=19) (rs:=[.cell 4 59,.tmp 5]) rfl Tryz.e148 rfl rfl rfl (lbt rfl) ?_
 simp only [BS,Tryz.FFf1148]
 refine ae aw S ?_;clear S;intro h b4 S n_b4
 obtain⟨c,o,hidx,hld⟩:=(hv.gr S.gr).ix (kd:=.i64) eP hi
 simp only [BS,LB,Nat.reduceLT,Nat.reduceEqDiff,Tryz.FFf1148,hv.lenq,c1,c2,hidx,hld]
 refine az (S.store (i:=0) rfl ?_ ?_ rfl rfl ?_ ono) ?_
 . exact(by exact za)
 . exact(by intro x e;cases e)
 . exact lbt rfl
 clear S;rintro h ⟨S,mo⟩;clear mo;simp only [LC,ag,lay,yq,yr,Nat.reduceAdd]at S
 simp only [BS,ab,cI]
 refine(cF (by decide) (by simp only [aK,ah,Nat.reduceEqDiff,reduceIte];exact cm Tryz.a59 za (S.lds (b:=b4) (o:=0) (n:=3) m0 (lbt rfl)))).2 ?_
 refine(jb (by decide)).2 (dr.2 ?_)
 exact⟨S.gr,rfl⟩
theorem tv{h0:Hp}(ok:h0.t.Sized h0.n){m:Nat}{v:Value}{N:Nat}{R:Nat->List Nat}(hv:ff h0 m v N R){i:Nat}(hi:i<N):Ret xX 135 [v,.int .i64 i] h0 fun r h'=>Gr h0 h'/\ ∃w,r=.tuple #[w,.bool true]/\aA h' 1 bW w (R i):=by
 have S:=Si ok
 obtain⟨bv,vs,rfl,_,hr,hlen,hw⟩:=hv
 obtain⟨w,e,sl,_⟩:=hw i hi
 have lw:=hr.load1 e
 have c1: ¬((i:Int)<0):=by omega
 have c2: ¬((N:Int)<=(i:Int)):=by omega
 refine ac (n:=19) (rs:=[.tmp 4,.tmp 5]) rfl Tryz.e135 rfl rfl rfl (lbt rfl) ?_
 simp only [BS,LB,ab,Nat.reduceLT,Nat.reduceEqDiff,Tryz.FFf1135,c1,c2,hi,lw]
 exact⟨S.gr,_,rfl,sl⟩
theorem oF{h0:Hp}(ok:h0.t.Sized h0.n){p:Value}{γ:Gra}{nb:Nat}(c:bT h0 nb p γ){i:Nat}(hi:i<γ.arcs.length):Ret xX 111 [p,.int .i64 i] h0 fun r h'=>Gr h0 h'/\r=.tuple #[.agg ⟨cI γ.arcs[i]⟩,.bool true]:=by
 have S:=Si ok
 obtain⟨b,vx,vy,va,vo,vi,rfl,r,ga,_⟩:=c.ex
 have l0:=r.load1 (o:=3) rfl
 refine ac (n:=18) (rs:=[.cell 4 59,.tmp 5]) rfl Tryz.e111 rfl rfl rfl (lbt rfl) ?_
 simp only [BS,Tryz.FFf1111]
 refine ae aw S ?_;clear S;intro h b4 S n_b4
 simp only [BS,LB,Nat.reduceLT,Nat.reduceEqDiff,Tryz.FFf1111,S.old l0 (fun h=>h)]
 refine step_ret (oneArc_ok S.ok (ga.A.gr S.gr) hi) ?_
 rintro v h ⟨g,rfl⟩
 replace S:=S.call g;clear g
 simp only [BS,LB,Nat.reduceLT,Nat.reduceEqDiff,cI]
 refine az (S.store (i:=0) rfl ?_ ?_ rfl rfl ?_ ono) ?_
 . exact(by exact za)
 . exact(by intro x e;cases e)
 . exact lbt rfl
 clear S;rintro h ⟨S,mo⟩;clear mo;simp only [LC,ag,lay,yq,yr,Nat.reduceAdd]at S
 simp only [BS,LB,ab,Nat.reduceLT,Nat.reduceEqDiff]
 refine(cF (by decide) (by simp only [aK,ah,Nat.reduceEqDiff,reduceIte];exact cm Tryz.a59 za (S.lds (b:=b4) (o:=0) (n:=3) m0 (lbt rfl)))).2 ?_
 refine(jb (by decide)).2 (dr.2 ?_)
 exact⟨S.gr,rfl⟩
theorem ss{h0:Hp}(ok:h0.t.Sized h0.n){p:Value}{γ:Gra}{nb:Nat}(c:bT h0 nb p γ)(hγ:γ.arcs.length<1000){i:Nat}(hi:i<γ.nodes):Ret xX 90 [p,.int .i64 i] h0 fun r h'=>Gr h0 h'/\aA h' 1 bW r (outs γ.arcs Arc.s γ.arcs.length i)/\ ∀c,av r c->h0.n<=c:=by
 have S:=Si ok
 obtain⟨b,vx,vy,va,vo,vi,rfl,r,ga,ro,ri,_⟩:=c.ex
 have l0:=r.load1 (o:=4) rfl
 refine ac (n:=20) (rs:=[.tmp 4]) rfl Tryz.e90 rfl rfl rfl (lbt rfl) ?_
 simp only [BS,LB,Nat.reduceLT,Nat.reduceEqDiff,Tryz.FFf190,l0]
 refine step_ret (tv S.ok ro hi) ?_
 rintro v h ⟨g,w,rfl,sl⟩
 replace S:=S.call g;clear g
 simp only [BS,LB,Nat.reduceLT,Nat.reduceEqDiff]
 have k0:=S.fr.n
 have hol:=ks γ.arcs Arc.s γ.arcs.length i
 refine step_ret (kI S.ok fH sl (by omega)) ?_;intro v h ⟨g,sl,hc⟩;replace S:=S.call g;clear g
 simp only [BS,LB,ab,Nat.reduceLT,Nat.reduceEqDiff]
 exact⟨S.gr,sl,fun c h=>yn k0 (hc c h)⟩
theorem netIn_ok{h0:Hp}(ok:h0.t.Sized h0.n){p:Value}{γ:Gra}{nb:Nat}(c:bT h0 nb p γ)(hγ:γ.arcs.length<1000){i:Nat}(hi:i<γ.nodes):Ret xX 88 [p,.int .i64 i] h0 fun r h'=>Gr h0 h'/\aA h' 1 bW r (outs γ.arcs Arc.t γ.arcs.length i)/\ ∀c,av r c->h0.n<=c:=by
 have S:=Si ok
 obtain⟨b,vx,vy,va,vo,vi,rfl,r,ga,ro,ri,_⟩:=c.ex
 have l0:=r.load1 (o:=5) rfl
 refine ac (n:=20) (rs:=[.tmp 4]) rfl Tryz.e88 rfl rfl rfl (lbt rfl) ?_
 simp only [BS,LB,Nat.reduceLT,Nat.reduceEqDiff,Tryz.FFf188,l0]
 refine step_ret (tv S.ok ri hi) ?_
 rintro v h ⟨g,w,rfl,sl⟩
 replace S:=S.call g;clear g
 simp only [BS,LB,Nat.reduceLT,Nat.reduceEqDiff]
 have k0:=S.fr.n
 have hol:=ks γ.arcs Arc.t γ.arcs.length i
 refine step_ret (kI S.ok fH sl (by omega)) ?_;intro v h ⟨g,sl,hc⟩;replace S:=S.call g;clear g
 simp only [BS,LB,ab,Nat.reduceLT,Nat.reduceEqDiff]
 exact⟨S.gr,sl,fun c h=>yn k0 (hc c h)⟩
theorem mul64_ok{h0:Hp}(ok:h0.t.Sized h0.n){N:Nat}(hN:N<1000):bC xX 170 [.int .u64 1,.int .u64 N] h0 (.tuple #[.int .u64 0,.int .u64 N]):=by
 have S:=Si ok
 have a1: ∀{t x y},bD xX .and t x y (.int .u64 1) (.int .u64 4294967295)=some (.int .u64 1):=b_andU (N:=1) (by decide)
 have a0: ∀{t x y},bD xX .and t x y (.int .u64 0) (.int .u64 4294967295)=some (.int .u64 0):=b_andU (N:=0) (by decide)
 have s1: ∀{t x y kd},bD xX .shr t x y (.int .u64 1) (.int kd 32)=some (.int .u64 0):=b_shrU (N:=1) (by decide)
 have s0: ∀{t x y kd},bD xX .shr t x y (.int .u64 0) (.int kd 32)=some (.int .u64 0):=b_shrU (N:=0) (by decide)
 have wn:au .u64 (N:Int)=(N:Int):=qJ (by omega) (by omega)
 have w0:au .u64 0=0:=rfl
 refine ac (n:=51) (rs:=[.tmp 4,.tmp 5]) rfl Tryz.e170 rfl rfl rfl (lbt rfl) ?_
 simp only [BS,LB,ab,Nat.reduceLT,Nat.reduceEqDiff,a1,a0,s1,s0,b_andU (N:=N) (by omega),b_shrU (N:=N) (by omega),Int.one_mul,Int.zero_mul,Int.mul_zero,Int.add_zero,wn,w0]
 exact S.gr
theorem mul_ok{h0:Hp}(ok:h0.t.Sized h0.n){N:Nat}(hN:N<1000):bC xX 155 [.int .u64 1,.int .u64 N] h0 (.tuple #[.int .u64 0,.int .u64 N]):=by
 have S:=Si ok
 refine ac (n:=30) (rs:=[.tmp 4,.tmp 5]) rfl Tryz.e155 rfl rfl rfl (lbt rfl) ?_
 simp only [BS,LB,Nat.reduceLT,Nat.reduceEqDiff]
 refine ar (mul64_ok S.ok hN) ?_;intro h g;replace S:=S.call g;clear g
 simp only [BS,LB,ab,Nat.reduceLT,Nat.reduceEqDiff]
 exact S.gr
end Go.Ab
end
section
namespace Go.Ab
theorem uY{E:Env}{t e:TypeId}{b n N:Nat}{kd:IntKind}(hu:E.und t=some (.slice e))(hs:E.sz e=some 1)(hn:n<N):ep E t (.slice (some ⟨b,0,none⟩) N N) (some (.int kd (n:Int))) none none=some (.slice (some ⟨b,n,none⟩) (N-n) (N-n)):=by
 have nat: ∀n:Nat,fT (n:Int)=some n:=fun n=>rfl
 have hb:yC N n=false:=by
  cases h:yC N n with
  |false=>rfl
  |true=>have:=yO h;omega
 simp only [ep,hu,d9,dV,nat,xZ (zC hn),cond_true,hs,yv,cond_false,hb,d5,ym,yz]
theorem tb{E:Env}{t e:TypeId}{b n N k:Nat}{kd:IntKind}(hu:E.und t=some (.slice e))(hs:E.sz e=some k)(hn:n<=N):ep E t (.slice (some ⟨b,0,none⟩) N N) none (some (.int kd (n:Int))) none=some (.slice (some ⟨b,0,none⟩) n N):=by
 have nat: ∀n:Nat,fT (n:Int)=some n:=fun n=>rfl
 simp only [ep,hu,d9,dV,nat,xZ hn,cond_true,hs,yv,cond_false,d5,yF,Nat.add_zero,Nat.sub_zero]
 cases yC N 0<;>rfl
section
variable{M:Nat->Prop}{h0 h:Hp}{L:List (Nat×Ob)}{G:List GL}{E:Env}{t e:TypeId}
theorem St.copyO(S:St M h0 h L G){i b o len cap b2 o2 m c2:Nat}{sp sp2:Option Nat}{cs l:List Value}(hi:L[i]? =some (b,.row cs 1))(hu:E.und t=some (.slice e))(hs:E.sz e=some 1)(hm:0<dz m len)(hl:h.load b2 o2 (dz m len*1)=some l)(hll:o+l.length<=cs.length)(hf:l.all iK=true){ts:List TypeId}:
 ∃h' w,copyV E h (t::ts) (.slice (some ⟨b,o,sp⟩) len cap) (.slice (some ⟨b2,o2,sp2⟩) m c2)=some (h',w)/\w=.int .i64 (dz m len:Nat)/\St M h0 h' (L.set i (b,.row (lay cs o l) 1)) G:=by
 obtain⟨y,h1,h2⟩:=(S.row (yj hi)).store S.ok ono (o:=o) (vs:=l) hll hf
 have len1:=load_len hl
 refine⟨h.put b y,_,?_,rfl,S.put hi h2⟩
 simp only [copyV,hu,hs,hl]
 cases l with
 |nil=>simp at len1;omega
 |cons x xs=>simp only [h1];rfl
end
theorem iA{a b:Nat}(h:a<=b):dz a b=a:=by unfold dz;rw [xZ h];rfl
theorem pu{a b:Nat}(h:b<=a):dz a b=b:=by
 unfold dz
 cases hb:yY a b with
 |false=>rfl
 |true=>have:=lbt hb;show a=b;omega
theorem pE{X Z:Value}{n c k:Nat}(hk:c<=k):lay (xY n X++xY k Z) n (xY c X)=xY (n+c) X++xY (k-c) Z:=by
 refine yx fun j=>?_
 rw [iH (by simp;omega),yR,yy,yy,yR,yR,yt,yt,yt,yt,yt]
 by_cases h1:j<n
 . rw [if_neg (by omega),if_pos h1,if_pos h1,if_pos (by omega),if_pos (by omega)]
 . by_cases h2:j<n+c
   . rw [if_pos (by omega),if_pos (by omega),if_pos h2,if_pos h2]
   . rw [if_neg (by omega),if_neg h1,if_neg h2]
     by_cases h3:j-n<k
     . rw [if_pos h3,if_pos (by omega)]
     . rw [if_neg h3,if_neg (by omega)]
theorem oa(z:Value): ∀n,aU [z] n=xY n z
 |0=>rfl
 |n+1=>by simp [aU,oa z n,zt]
def ClF(O:List Nat)(f:Int->Option Value):Prop:= ∀u:Nat,f (u:Int)=if u∈O then some (.int .i64 1)else none
end Go.Ab

end
section
namespace Go.Ab
open Go.Proofs
set_option maxRecDepth 10000
open Tryz in
def Tryz.FFf2129:=aj a1<|aj s1<|aj z1<|aj n1<|aj u2<|aj a2<|aj s2<|aj z2<|aj i2<|aj u3<|aj a3<|aj s3<|aj z3<|aj i3<|aj u4<|aj a4<|aj s4<|aj z4<|aj n4<|aj u5<|aj a5<|aj s5<|aj z5<|aj i5<|aj u6<|aj a6<|aj s6<|aj z6<|aj i6<|aj a7<|aj s7<|aj z7<|aj i7<|aj n7<|aj p7<|aj ff7<|aj d7<|aj a8<|aj s8<|aj z8<|aj i8<|aj n8<|aj p8<|aj ff8<|aj d8<|aj u9<|aj a9<|aj s9<|aj z9<|aj n9<|aj u10<|aj a10<|aj s10<|aj z10<|aj n10<|aj a20<|aj s20<|aj z20<|aj q20<|aj n20<|aj u25<|aj a25<|aj s25<|aj z25<|aj q25<|aj n25<|aj u97<|aj a97<|aj s97<|aj z97<|i97
open Tryz in
def Tryz.FFf2130:=aj a1<|aj s1<|aj z1<|aj n1<|aj u2<|aj a2<|aj s2<|aj z2<|aj i2<|aj u3<|aj a3<|aj s3<|aj z3<|aj i3<|aj u4<|aj a4<|aj s4<|aj z4<|aj n4<|aj u5<|aj a5<|aj s5<|aj z5<|aj i5<|aj u6<|aj a6<|aj s6<|aj z6<|aj i6<|aj a7<|aj s7<|aj z7<|aj i7<|aj n7<|aj p7<|aj ff7<|aj d7<|aj a8<|aj s8<|aj z8<|aj i8<|aj n8<|aj p8<|aj ff8<|aj d8<|aj u9<|aj a9<|aj s9<|aj z9<|aj n9<|aj u10<|aj a10<|aj s10<|aj z10<|aj n10<|aj a20<|aj s20<|aj z20<|aj q20<|aj n20<|aj u40<|aj a40<|aj s40<|aj z40<|aj q40<|aj n40<|aj u97<|aj a97<|aj s97<|aj z97<|i97
theorem rep64_ok{h0:Hp}(ok:h0.t.Sized h0.n){v:Value}{x:Int}{N:Nat}(hv:aA h0 1 (encI .i64) v [x])(h1:1<=N)(hN:N<1000):Ret xX 129 [v,.int .i64 N] h0 fun r h'=>Gr h0 h'/\ ∃b,r=.slice (some ⟨b,0,none⟩) N N/\h0.n<=b/\Row h' b (xY N (.int .i64 x)) 1:=by
 have S:=Si ok
 have c1: ¬((N:Int)<0):=by omega
 have c2: ¬((9223372036854775807:Int)<(N:Int)):=by omega
 have wn:au .u64 (N:Int)=(N:Int):=qJ (by omega) (by omega)
 have w1:au .u64 1=1:=rfl
 have wm:au .i64 (N:Int)=(N:Int):=by rw [wrap64]<;>omega
 obtain⟨bx,ox,sx,cx,rfl,hcx,hx⟩: ∃b o s c,v=.slice (some ⟨b,o,s⟩) 1 c/\1<=c/\h0.load b o 1=some [.int .i64 x]:=by
  rcases hv with⟨_,h⟩|⟨b,o,s,c,rfl,h2,h3⟩
  . cases h
  . exact⟨b,o,s,c,rfl,h2,h3⟩
 refine ac (n:=48) (rs:=[.tmp 4]) rfl Tryz.e129 rfl rfl rfl (lbt rfl) ?_
 simp only [BS,LB,jd,bU,jh,Nat.reduceLT,Nat.reduceEqDiff,yb,Tryz.FFf2129,c1,wn,w1]
 refine ar (mul_ok S.ok hN) ?_;intro h g;replace S:=S.call g;clear g
 simp only [BS,LB,jd,bU,jh,Nat.reduceLT,Nat.reduceEqDiff,Int.reduceLT,Tryz.FFf2129,c2,wm]
 refine ae (kN (by exact zp) (by exact Tryz.e2E) (by omega) (by omega)) S ?_;clear S;intro h bb S n_bb
 rw [yk,oa]at S
 simp only [BS,LB,Nat.reduceLT,Nat.reduceEqDiff,yk]
 refine eK (S.copyO (i:=0) (l:=xY 1 (.int .i64 x)) rfl zp zD (by rw [iA h1];decide) (by rw [iA h1];exact S.old hx (fun h=>h)) (by simp;omega) rfl) ?_
 clear S;rintro h w ⟨rfl,S⟩
 simp only [LC]at S
 rw [show xY N (Value.int .i64 0)=xY 0 (.int .i64 x)++xY N (.int .i64 0) by simp,pE h1]at S
 rw [iA h1]
 simp only [BS,LB,Nat.reduceLT,Nat.reduceEqDiff,yb]
 refine aZ (fun(n:Nat) ρ h=>1<=n/\n<=N/\St NoM h0 h [(bb,.row (xY n (.int .i64 x)++xY (N-n) (.int .i64 0)) 1)] []/\ρ 7=.slice (some ⟨bb,0,none⟩) N N/\ρ 8=.int .i64 n) (fun n=>N-n) ?_ 1 _ _ ?_
 . clear S
   intro n ih ρ h ⟨hn1,hn,S,r7,r8⟩
   by_cases hlt:n<N
   . simp only [BS,LB,Nat.reduceLT,Nat.reduceEqDiff,Tryz.FFf2129,r7,r8,aI,hlt]
     refine aC (aH rfl) (q:=0) (ps:=[]) (by kernel_rfl) ?_
     simp only [BS,LB,cls,Nat.reduceLT,Nat.reduceEqDiff,Nat.reduceAdd,Nat.reducePow,Nat.reduceDiv,Nat.reduceMod,Nat.reduceLeDiff,yV,zi,r7,r8,uY zp zD hlt,tb zp zD (zC hlt)]
     have hm:0<dz n (N-n):=by
      rcases ze n (N-n)with h|h
      . rw [iA h];omega
      . rw [pu h];omega
     have hm2:dz n (N-n)<=N-n/\dz n (N-n)<=n:=by
      rcases ze n (N-n)with h|h
      . rw [iA h];omega
      . rw [pu h];omega
     refine dn_v (S.copyO (i:=0) (l:=xY (dz n (N-n)) (.int .i64 x)) rfl zp zD hm ?_ (by simp;omega) (by simp;right;rfl)) ?_
     . rw [(S.row m0).load (by simp;omega),ym,yK]
       congr 1
       rw [yW (by simp;omega),zw]
       congr 1
       omega
     clear S;rintro h w ⟨rfl,S⟩
     simp only [LC]at S
     rw [pE hm2.1]at S
     generalize dz n (N-n)=k at S hm hm2
     have w:au .i64 ((n:Int)+(k:Int))=((n+k:Nat):Int):=by rw [wrap64]<;>omega
     simp only [BS,LB,cls,Nat.reduceLT,Nat.reduceEqDiff,Nat.reduceAdd,Nat.reducePow,Nat.reduceDiv,Nat.reduceMod,Nat.reduceLeDiff,w]
     exact ih (n+k) _ _ (by omega) ⟨by omega,by omega,by rw [show N-(n+k)=N-n-k by omega];exact S,by simp [aa,r7],by simp [aa]⟩
   . simp only [BS,LB,ab,Nat.reduceLT,Nat.reduceEqDiff,Tryz.FFf2129,r7,r8,aI,hlt]
     have e:n=N:=by omega
     subst e
     have R:=S.row (b:=bb) m0
     rw [yS,zx,yo]at R
     exact⟨S.gr,bb,rfl,n_bb,R⟩
 . exact⟨yu _,h1,by simpa using S,by simp [aa],by simp [aa]⟩
theorem repI_ok{h0:Hp}(ok:h0.t.Sized h0.n){v:Value}{x:Int}{N:Nat}(hv:aA h0 1 (encI .i64) v [x])(h1:1<=N)(hN:N<1000):Ret xX 130 [v,.int .i64 N] h0 fun r h'=>Gr h0 h'/\ ∃b,r=.slice (some ⟨b,0,none⟩) N N/\h0.n<=b/\Row h' b (xY N (.int .i64 x)) 1:=by
 have S:=Si ok
 have c1: ¬((N:Int)<0):=by omega
 have c2: ¬((9223372036854775807:Int)<(N:Int)):=by omega
 have wn:au .u64 (N:Int)=(N:Int):=qJ (by omega) (by omega)
 have w1:au .u64 1=1:=rfl
 have wm:au .i64 (N:Int)=(N:Int):=by rw [wrap64]<;>omega
 obtain⟨bx,ox,sx,cx,rfl,hcx,hx⟩: ∃b o s c,v=.slice (some ⟨b,o,s⟩) 1 c/\1<=c/\h0.load b o 1=some [.int .i64 x]:=by
  rcases hv with⟨_,h⟩|⟨b,o,s,c,rfl,h2,h3⟩
  . cases h
  . exact⟨b,o,s,c,rfl,h2,h3⟩
 refine ac (n:=48) (rs:=[.tmp 4]) rfl Tryz.e130 rfl rfl rfl (lbt rfl) ?_
 simp only [BS,LB,jd,bU,jh,Nat.reduceLT,Nat.reduceEqDiff,yb,Tryz.FFf2130,c1,wn,w1]
 refine ar (mul_ok S.ok hN) ?_;intro h g;replace S:=S.call g;clear g
 simp only [BS,LB,jd,bU,jh,Nat.reduceLT,Nat.reduceEqDiff,Int.reduceLT,Tryz.FFf2130,c2,wm]
 refine ae (kN (by exact yw) (by exact yL) (by omega) (by omega)) S ?_;clear S;intro h bb S n_bb
 rw [yk,oa]at S
 simp only [BS,LB,Nat.reduceLT,Nat.reduceEqDiff,yk]
 refine eK (S.copyO (i:=0) (l:=xY 1 (.int .i64 x)) rfl yw zj (by rw [iA h1];decide) (by rw [iA h1];exact S.old hx (fun h=>h)) (by simp;omega) rfl) ?_
 clear S;rintro h w ⟨rfl,S⟩
 simp only [LC]at S
 rw [show xY N (Value.int .i64 0)=xY 0 (.int .i64 x)++xY N (.int .i64 0) by simp,pE h1]at S
 rw [iA h1]
 simp only [BS,LB,Nat.reduceLT,Nat.reduceEqDiff,yb]
 refine aZ (fun(n:Nat) ρ h=>1<=n/\n<=N/\St NoM h0 h [(bb,.row (xY n (.int .i64 x)++xY (N-n) (.int .i64 0)) 1)] []/\ρ 7=.slice (some ⟨bb,0,none⟩) N N/\ρ 8=.int .i64 n) (fun n=>N-n) ?_ 1 _ _ ?_
 . clear S
   intro n ih ρ h ⟨hn1,hn,S,r7,r8⟩
   by_cases hlt:n<N
   . simp only [BS,LB,Nat.reduceLT,Nat.reduceEqDiff,Tryz.FFf2130,r7,r8,aI,hlt]
     refine aC (aH rfl) (q:=0) (ps:=[]) (by kernel_rfl) ?_
     simp only [BS,LB,cls,Nat.reduceLT,Nat.reduceEqDiff,Nat.reduceAdd,Nat.reducePow,Nat.reduceDiv,Nat.reduceMod,Nat.reduceLeDiff,yV,zi,r7,r8,uY yw zj hlt,tb yw zj (zC hlt)]
     have hm:0<dz n (N-n):=by
      rcases ze n (N-n)with h|h
      . rw [iA h];omega
      . rw [pu h];omega
     have hm2:dz n (N-n)<=N-n/\dz n (N-n)<=n:=by
      rcases ze n (N-n)with h|h
      . rw [iA h];omega
      . rw [pu h];omega
     refine dn_v (S.copyO (i:=0) (l:=xY (dz n (N-n)) (.int .i64 x)) rfl yw zj hm ?_ (by simp;omega) (by simp;right;rfl)) ?_
     . rw [(S.row m0).load (by simp;omega),ym,yK]
       congr 1
       rw [yW (by simp;omega),zw]
       congr 1
       omega
     clear S;rintro h w ⟨rfl,S⟩
     simp only [LC]at S
     rw [pE hm2.1]at S
     generalize dz n (N-n)=k at S hm hm2
     have w:au .i64 ((n:Int)+(k:Int))=((n+k:Nat):Int):=by rw [wrap64]<;>omega
     simp only [BS,LB,cls,Nat.reduceLT,Nat.reduceEqDiff,Nat.reduceAdd,Nat.reducePow,Nat.reduceDiv,Nat.reduceMod,Nat.reduceLeDiff,w]
     exact ih (n+k) _ _ (by omega) ⟨by omega,by omega,by rw [show N-(n+k)=N-n-k by omega];exact S,by simp [aa,r7],by simp [aa]⟩
   . simp only [BS,LB,ab,Nat.reduceLT,Nat.reduceEqDiff,Tryz.FFf2130,r7,r8,aI,hlt]
     have e:n=N:=by omega
     subst e
     have R:=S.row (b:=bb) m0
     rw [yS,zx,yo]at R
     exact⟨S.gr,bb,rfl,n_bb,R⟩
 . exact⟨yu _,h1,by simpa using S,by simp [aa],by simp [aa]⟩
end Go.Ab
end

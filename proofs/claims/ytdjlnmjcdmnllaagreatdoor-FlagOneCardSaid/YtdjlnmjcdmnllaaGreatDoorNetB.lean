/- Nets, cells, flags: what the functions do (part 2). -/
import Derived.Test.YtdjlnmjcdmnllaaGreatDoorNetA
open List renaming getD_eq_getElem?_getD->xc,range->xe,nodup_append->xf,length_set->xg,mem_map_of_mem->xh,length_append->xj,map_append->xn,map_cons->xo,mem_of_getElem?->xp,take->xq,drop->xt,getElem?_set->xx,append_nil->xz,getElem?_eq_getElem->xC,length_take->xE,mem_cons->xF,nodup_cons->xG,ext_getElem?->xH,getElem?_append_right->xK,take_succ_cons->xN,drop_eq_getElem_cons->xO,getElem?_append_left->xP,length_cons->xW,getElem_mem->xX,not_mem_nil->xY,getElem?_eq_none->xZ,length_nil->yb,getElem?_append->yc,take_zero->yd,filterMap_nil->yf,getElem?_map->yg,getElem?_take_of_lt->yj,mem_append->ym,length_singleton->yq,flatMap_eq_foldl->yr,drop_zero->yt,getElem?_range->yy,map_nil->yB
open Go.Ab.Tryz renaming abEnv->xd,u242->xB,u38->xJ,u3->xM,e3E->xQ,s49->yi,u264->yn,e274E->yw
open Nat renaming ble_eq_true_of_le->xi,lt_of_succ_le->xm,le_trans->xw,zero_add->xy,mul_one->xA,zero_mul->xI,le_refl->xL,beq->xS,one_mul->xV,beq_refl->ya,lt_of_lt_of_le->ye,ble->yh,add_sub_cancel_left->yl,zero_le->yo,eq_of_beq_eq_true->yp,blt_eq->yv,sub_self->yz
open Prod renaming fst->xk
open Int renaming cast_ofNat_Int->xu,toNat_natCast->xU,ofNat_eq_natCast->yu,ofNat->yA
open Option renaming isSome_none->xR,getD_none->yk
open Bool renaming and_true->yx
set_option maxHeartbeats 4000000
set_option linter.defProp false
set_option linter.unusedVariables false
set_option linter.unusedSimpArgs false
section
namespace Go.Ab
open Go.Proofs
set_option maxRecDepth 10000
open Tryz in
def Tryz.FFt10145:=aj a1<|aj s1<|aj z1<|aj n1<|aj u2<|aj a2<|aj s2<|aj z2<|aj i2<|aj u3<|aj a3<|aj s3<|aj z3<|aj i3<|aj a49<|aj s49<|aj z49<|aj i49<|aj n49<|aj p49<|aj ff49<|d49
open Tryz in
def Tryz.FFt10146:=aj a1<|aj s1<|aj z1<|aj n1<|aj u2<|aj a2<|aj s2<|aj z2<|aj i2<|aj u3<|aj a3<|aj s3<|aj z3<|aj i3<|aj a49<|aj s49<|aj z49<|aj i49<|aj n49<|aj p49<|aj ff49<|d49
open Tryz in
def Tryz.FFt10144:=aj a1<|aj s1<|aj z1<|aj n1<|aj u2<|aj a2<|aj s2<|aj z2<|aj i2<|aj u3<|aj a3<|aj s3<|aj z3<|aj i3<|aj u4<|aj a4<|aj s4<|aj z4<|aj n4<|aj u5<|aj a5<|aj s5<|aj z5<|aj i5<|aj u6<|aj a6<|aj s6<|aj z6<|aj i6<|aj a7<|aj s7<|aj z7<|aj i7<|aj n7<|aj p7<|aj ff7<|aj d7<|aj a8<|aj s8<|aj z8<|aj i8<|aj n8<|aj p8<|aj ff8<|aj d8<|aj u9<|aj a9<|aj s9<|aj z9<|aj n9<|aj u10<|aj a10<|aj s10<|aj z10<|aj n10<|aj u11<|aj a11<|aj s11<|aj z11<|aj n11<|aj u12<|aj a12<|aj s12<|aj z12<|aj i12<|aj a13<|aj s13<|aj z13<|aj i13<|aj n13<|aj p13<|aj ff13<|aj d13<|aj a14<|aj s14<|aj z14<|aj i14<|aj n14<|aj p14<|aj ff14<|aj d14<|aj u15<|aj a15<|aj s15<|aj z15<|aj q15<|aj i15<|aj n15<|aj u16<|aj a16<|aj s16<|aj z16<|aj q16<|aj i16<|aj n16<|aj u17<|aj a17<|aj s17<|aj z17<|aj q17<|aj i17<|aj n17<|aj a18<|aj s18<|aj z18<|aj i18<|aj n18<|aj p18<|aj ff18<|aj d18<|aj a19<|aj s19<|aj z19<|aj i19<|aj n19<|aj p19<|aj ff19<|aj d19<|aj a20<|aj s20<|aj z20<|aj q20<|aj n20<|aj u25<|aj a25<|aj s25<|aj z25<|aj q25<|aj n25<|aj u26<|aj a26<|aj s26<|aj z26<|aj q26<|aj n26<|aj a28<|aj s28<|aj z28<|aj i28<|aj n28<|aj p28<|aj ff28<|aj d28<|aj u38<|aj a38<|aj s38<|aj z38<|aj q38<|aj n38<|aj a49<|aj s49<|aj z49<|aj i49<|aj n49<|aj p49<|aj ff49<|aj d49<|aj u121<|aj a121<|aj s121<|aj z121<|aj q121<|aj i121<|aj n121<|aj u190<|aj a190<|aj s190<|aj z190<|aj q190<|aj n190<|aj a219<|aj s219<|aj z219<|aj n219<|aj u294<|aj a294<|aj s294<|aj z294<|aj i294<|aj u324<|aj a324<|aj s324<|aj z324<|aj i324<|aj a357<|aj s357<|aj z357<|aj i357<|aj n357<|aj p357<|aj ff357<|aj d357<|aj u358<|aj a358<|aj s358<|aj z358<|aj n358<|aj a360<|aj s360<|aj z360<|aj i360<|aj n360<|aj u362<|aj a362<|aj s362<|aj z362<|aj i362<|aj a363<|aj s363<|aj z363<|aj n363<|aj u364<|aj a364<|aj s364<|aj z364<|aj i364<|aj u365<|aj a365<|aj s365<|aj z365<|aj i365<|aj a367<|aj s367<|aj z367<|aj i367<|aj n367<|aj p367<|aj ff367<|d367
theorem slice_at{E:Env}{t e:TypeId}{b k len cap l m:Nat}{kd1 kd2 kd3:IntKind}(hu:E.und t=some (.slice e))(hs:E.sz e=some k)(hlm:l<=m)(hm:m<=cap):
 eA E t (.slice (some ⟨b,0,none⟩) len cap) (some (.int kd1 (l:Int))) (some (.int kd2 (l:Int))) (some (.int kd3 (m:Int)))=some (.slice (some ⟨b,if m=l then 0 else l*k,none⟩) 0 (m-l)):=by
 have nat: ∀n:Nat,fg (n:Int)=some n:=fun n=>rfl
 simp only [eA,hu,dX,dS,nat,xi hm,xi hlm,xi (xL l),cond_true,hs,yz,Option.map]
 by_cases h:m=l
 . subst h;rw [ya];simp
 . have:xS m l=false:=by
    cases hb:xS m l with
    |false=>rfl
    |true=>exact absurd (yp hb) h
   rw [this,if_neg h];simp [dK]
theorem St.fill{M:Nat->Prop}{h0 h:Hp}{L:List (Nat×Ob)}{G:List GL}(S:St M h0 h L G){E:Env}{t tx e:TypeId}{by_ i b off len cap md:Nat}{zs l:List Value}{s:Option Nat}{x v:Value}(hi:L[i]? =some (b,.row l md))(hu:E.und t=some (.slice e))(he:dJ E e by_ 1 zs)
 (hx:av E tx=some false) (hsrc:aO h 1 x=some (1,[v])) (hv:Fl v) (hc:len<cap) (ho:off+len<l.length) (hmd:md≠0) {ts:List TypeId}:
 ∃h',cU E h (t::tx::ts) (.slice (some ⟨b,off,s⟩) len cap) x=some (h',.slice (some ⟨b,off,s⟩) (len+1) cap)/\St M h0 h' (L.set i (b,.row (l.set (off+len) v) md)) G/\Mo (· =b) h h':=by
 obtain⟨⟨i',hi',rfl,hsz⟩,hz,hl2⟩:=he
 have hr:=S.row (xp hi)
 obtain⟨y,h1,h2⟩:=hr.store S.ok hmd (o:=off+len) (vs:=[v]) (by simp;omega) (by simp [hv.2.1])
 have e:lay l (off+len) [v]=l.set (off+len) v:=by
  refine xH fun j=>?_
  rw [gT (by simp;omega),xx]
  simp only [xW,yb]
  by_cases hj:off+len=j
  . subst hj;rw [if_pos ⟨xL _,by omega⟩,if_pos rfl,if_pos ho];simp
  . rw [if_neg (by omega),if_neg hj]
 rw [e]at h2
 refine⟨h.put b y,?_,S.put hi h2,(Mo.refl (M:=(· =b)) S.ok).put (.inr rfl) y⟩
 simp only [cU,hx,iK,hu,hi',hsz,hsrc]
 unfold dW
 rw [xi (by omega:len+1<=cap)]
 simp only [cond_true,hsz,xA,h1]
theorem note_runq{ρ:Operand->Value}{f:Operand}{xs:Array Operand}{ts:Array TypeId}{h h':Hp}:bK ρ true (.call ⟨.value f,xs,ts⟩) h h'=none:=rfl
theorem nX{i:Nat}:bg i []=none:=rfl
theorem pair_n{x:Option Tch}:gP none x=true:=rfl
def KeyF(E:Env)(g:FuncId)(f:Arc->Nat):Prop:= ∀(h:Hp) (a:Arc),h.t.Sized h.n->bA E g [.agg ⟨cl a⟩] h (.int .i64 (f a))
theorem of2_key:KeyF xd 145 Arc.s:=by
 intro h0 a ok
 have S:=Si ok
 refine ac (n:=5) (rs:=[.tmp 2]) rfl Tryz.e145 rfl rfl rfl (lbt rfl) ?_
 simp only [BS,Nat.reduceLT,cl]
 refine ag (bR (by intro x e;cases e)) S ?_;clear S;intro h b S n_b;simp only [ah]at S
 simp only [BS,LB,ae,Nat.reduceLT,Nat.reduceEqDiff,Tryz.FFt10145,S.ld (b:=b) (o:=0) m0 rfl]
 exact S.gr
theorem of3_key:KeyF xd 146 Arc.t:=by
 intro h0 a ok
 have S:=Si ok
 refine ac (n:=5) (rs:=[.tmp 2]) rfl Tryz.e146 rfl rfl rfl (lbt rfl) ?_
 simp only [BS,Nat.reduceLT,cl]
 refine ag (bR (by intro x e;cases e)) S ?_;clear S;intro h b S n_b;simp only [ah]at S
 simp only [BS,LB,ae,Nat.reduceLT,Nat.reduceEqDiff,Tryz.FFt10146,S.ld (b:=b) (o:=1) m0 rfl]
 exact S.gr
theorem ja(A:List Arc)(f:Arc->Nat)(j v:Nat):(outs A f j v).length<=j:=by
 unfold outs
 exact xw (List.length_filter_le _ _) (by simp)
theorem mI(z:Value)(N:Nat):aP [z] ((N:Int)).toNat=(xe N).map fun _=>z:=by
 rw [xU]
 have: ∀n,aP [z] n=List.replicate n z:=by
  intro n
  induction n with
  |zero=>rfl
  |succ n ih=>simp [aP,ih,List.replicate_succ]
 rw [this,List.map_const',List.length_range]
def jJ(A:List Arc)(f:Arc->Nat)(i v:Nat):Value:=.int .i64 ((outs A f i v).length:Nat)
def eW(A:List Arc)(f:Arc->Nat)(b v n:Nat):Value:=.slice (some ⟨b,if(outs A f A.length v).length=0 then 0 else start A f v,none⟩) n (outs A f A.length v).length
theorem cnt_set{A:List Arc}{f:Arc->Nat}{N i:Nat}(hi:i<A.length):((xe N).map (jJ A f i)).set (f A[i]) (.int .i64 (((outs A f i (f A[i])).length+1:Nat):Int))=(xe N).map (jJ A f (i+1)):=by
 have hd:A.getD i default=A[i]:=by simp [xc,hi]
 have e:(.int .i64 (((outs A f i (f A[i])).length+1:Nat):Int):Value)=jJ A f (i+1) (f A[i]):=by
  unfold jJ;rw [fE,hd,if_pos rfl,xj];rfl
 rw [e]
 refine gw fun v hv hne=>?_
 unfold jJ
 rw [fE,hd,if_neg (fun e=>hne e.symm),xz]
def re(A:List Arc)(f:Arc->Nat)(N i:Nat)(cs:List Value):Prop:=
 cs.length=A.length/\ ∀v r x,v<N->(outs A f i v)[r]? =some x->cs[start A f v+r]? =some (.int .i64 (x:Nat))
theorem fill_zero{A:List Arc}{f:Arc->Nat}{N:Nat}:re A f N 0 ((xe A.length).map fun _=>.int .i64 0):=
 ⟨by simp,fun v r x _ h=>by simp [outs]at h⟩
theorem fill_step{A:List Arc}{f:Arc->Nat}{N i:Nat}{cs:List Value}(h:re A f N i cs)(hi:i<A.length):re A f N (i+1) (cs.set (start A f (f A[i])+(outs A f i (f A[i])).length) (.int .i64 (i:Nat))):=by
 have hd:A.getD i default=A[i]:=by simp [xc,hi]
 have hl:(outs A f (i+1) (f A[i])).length<=(outs A f A.length (f A[i])).length:=rJ A f (by omega) _
 rw [fE,hd,if_pos rfl,xj]at hl
 have hlt:(outs A f i (f A[i])).length<(outs A f A.length (f A[i])).length:=by simp at hl;omega
 have top:=lU A f (f A[i])
 refine⟨by rw [xg];exact h.1,fun v r x hv hx=>?_⟩
 have hr:r<(outs A f (i+1) v).length:=(List.getElem?_eq_some_iff.1 hx).1
 have hr2:r<(outs A f A.length v).length:=ye hr (rJ A f (by omega) v)
 rw [xx]
 by_cases e:start A f (f A[i])+(outs A f i (f A[i])).length=start A f v+r
 . obtain⟨e1,e2⟩:=u7 A f hlt hr2 e
   subst e1
   rw [if_pos e,if_pos (by rw [h.1];omega)]
   rw [fE,hd,if_pos rfl,yc,if_neg (by omega),e2,yz]at hx
   simp at hx
   rw [hx]
 . rw [if_neg e]
   refine h.2 v r x hv ?_
   rw [fE,hd]at hx
   by_cases e1:f A[i]=v
   . rw [if_pos e1,yc]at hx
     subst e1
     by_cases h3:r<(outs A f i (f A[i])).length
     . rw [if_pos h3]at hx;exact hx
     . rw [if_neg h3]at hx
       have:=(List.getElem?_eq_some_iff.1 hx).1
       simp at this
       exact absurd (by omega) e
   . rw [if_neg e1,xz]at hx;exact hx
theorem of1_ok {h0:Hp} (ok:h0.t.Sized h0.n) {γ:Gra} (hγ:Good γ) {vx vy va:Value} {b:Nat} (hb:Row h0 b [.int .i64 γ.nodes,vx,vy,va] 1) (ga:cM h0 vx vy va γ) {g:FuncId} {f:Arc->Nat} (hk:KeyF xd g f) (hf: ∀a∈γ.arcs,f a<γ.nodes):
 Ret xd 144 [.func (.func g) #[] #[],ptrTo b] h0 fun v h'=>Gr h0 h'/\ez h' h0.n v γ.nodes (outs γ.arcs f γ.arcs.length):=by
 have S:=Si ok
 have n2:=hγ.n2
 have many:=hγ.many
 obtain⟨N,X,Y,A⟩:=γ
 simp only []at hb n2 many hf
 have gA:aE h0 3 cl va A:=ga.A
 have l0:=hb.load1 (o:=0) rfl
 have l3:=hb.load1 (o:=3) rfl
 refine ac (n:=85) (rs:=[.tmp 3]) rfl Tryz.e144 rfl rfl rfl (lbt rfl) ?_
 simp only [BS,LB,Nat.reduceLT,Nat.reduceEqDiff,Tryz.FFt10144,l0]
 refine ag (iw (by exact xJ) (by exact xQ) (by omega) (by omega)) S ?_;clear S;intro h bm S n_bm
 rw [mI]at S
 replace S:St NoM h0 h [(bm,.row ((xe N).map (jJ A f 0)) 1)] []:=S
 simp only [BS,LB,Nat.reduceLT,Nat.reduceEqDiff,Tryz.FFt10144,S.old l3 (fun h=>h),gA.lenq,xU]
 refine aV (fun(i:Nat) ρ h=>i<=A.length/\St NoM h0 h [(bm,.row ((xe N).map (jJ A f i)) 1)] []/\ρ 0=.func (.func g) #[] #[]/\ρ 1=ptrTo b/\ρ 4=.slice (some ⟨bm,0,none⟩) N N/\ρ 18=va/\ρ 19=.int .i64 A.length/\ρ 20=.int .i64 i) (fun i=>A.length-i) ?_ 0 _ _ ?_
 . clear S
   intro i ih ρ h ⟨hi,S,r0,r1,r4,r18,r19,r20⟩
   by_cases hlt:i<A.length
   . obtain⟨c,o,hidx,hld⟩:=(gA.gr S.gr).ix (kd:=.i64) et hlt
     have hfi:f A[i]<N:=hf _ (xX hlt)
     have hol:=ja A f i (f A[i])
     have w:ao .i64 ((i:Int)+1)=((i+1:Nat):Int):=by rw [wrap64]<;>omega
     have w2:ao .i64 (((outs A f i (f A[i])).length:Int)+1)=(((outs A f i (f A[i])).length+1:Nat):Int):=by rw [wrap64]<;>omega
     simp only [BS,LB,Nat.reduceLT,Nat.reduceEqDiff,Tryz.FFt10144,r18,r19,r20,aG,hlt,hidx,hld]
     refine ag ax S ?_;clear S;intro h b6 S n_b6
     simp only [BS,LB,Nat.reduceLT,Nat.reduceEqDiff,cl]
     refine az (S.store (i:=0) rfl ?_ ?_ rfl rfl ?_ ono) ?_
     . exact(by exact yi)
     . exact(by intro x e;cases e)
     . exact lbt rfl
     clear S;rintro h ⟨S,mo⟩;clear mo;simp only [LC,ah,lay,xq,xt,Nat.reduceAdd]at S
     simp only [BS,LB,Nat.reduceLT,Nat.reduceEqDiff,Tryz.FFt10144,r0,r4,S.lds (b:=b6) (o:=0) (n:=3) m0 (lbt rfl)]
     refine aq (hk _ A[i] S.ok) ?_;intro h g;replace S:=S.call g;clear g
     have lm:=S.ld (b:=bm) (o:=f A[i]) m1 (gZ (F:=jJ A f i) hfi)
     unfold jJ at lm
     simp only [BS,LB,Nat.reduceLT,Nat.reduceEqDiff,Tryz.FFt10144,hfi,lm,w2]
     refine az (aB S (i:=1) rfl Tryz.s3 bO (by simpa using hfi) ono) ?_
     clear S lm;rintro h ⟨S,mo⟩;clear mo
     simp only [LC]at S
     rw [cnt_set hlt]at S
     replace S:=S.drop1
     simp only [BS,LB,Nat.reduceLT,Nat.reduceEqDiff,r20,w]
     exact ih (i+1) _ _ (by omega) ⟨by omega,S,by simp [aa,r0],by simp [aa,r1,ab],by simp [aa,r4],by simp [aa,r18],by simp [aa,r19],by simp [aa]⟩
   . have hiN : i=A.length:=by omega
     subst hiN
     simp only [BS,LB,Nat.reduceLT,r19,r20,aG,hlt]
     refine aA (aI rfl) (q:=72) (ps:=[]) (by kernel_rfl) ?_
     simp only [BS,LB,cls,Nat.reduceLT,Nat.reduceEqDiff,Nat.reduceAdd,Nat.reducePow,Nat.reduceDiv,Nat.reduceMod,Nat.reduceLeDiff,Tryz.FFt10144,r1,S.old l3 (fun h=>h),gA.lenq]
     refine dT (iw (by exact xJ) (by exact xQ) (by omega) (by omega)) S ?_;clear S;intro h ba S n_ba e_ba
     rw [mI]at S
     simp only [BS,LB,cls,Nat.reduceLT,Nat.reduceEqDiff,Nat.reduceAdd,Nat.reducePow,Nat.reduceDiv,Nat.reduceMod,Nat.reduceLeDiff,Tryz.FFt10144,r1,S.old l0 (fun h=>h),xU]
     refine dT (iw (by exact Tryz.u190) (by exact Tryz.e38E) (by omega) (by omega)) S ?_;clear S;intro h br S n_br e_br
     rw [mI]at S
     simp only [BS,LB,cls,Nat.reduceLT,Nat.reduceEqDiff,Nat.reduceAdd,Nat.reducePow,Nat.reduceDiv,Nat.reduceMod,Nat.reduceLeDiff,Tryz.FFt10144,r4,xU]
     have e0:(xe N).map (fun v=>if v<0 then eW A f ba v 0 else .slice none 0 0)=(xe N).map (fun _=>(.slice none 0 0:Value)):=by simp
     rw [<-e0]at S
     refine aV (fun(j:Nat) ρ h=>j<=N/\St NoM h0 h [(br,.row ((xe N).map fun v=>if v<j then eW A f ba v 0 else .slice none 0 0) 1),(ba,.row ((xe A.length).map fun _=>.int .i64 0) 1),(bm,.row ((xe N).map (jJ A f A.length)) 1)] []/\
      ρ 0=.func (.func g) #[] #[]/\ρ 1=ptrTo b/\ρ 7=.slice (some ⟨ba,0,none⟩) A.length A.length/\ρ 8=.slice (some ⟨br,0,none⟩) N N/\ρ 9=.int .i64 (start A f j)/\ρ 40=.slice (some ⟨bm,0,none⟩) N N/\ρ 41=.int .i64 N/\ρ 42=.int .i64 j) (fun j=>N-j) ?_ 0 _ _ ?_
     . clear S r0 r1 r4 r18 r19 r20
       intro j ih ρ h ⟨hj,S,r0,r1,r7,r8,r9,r40,r41,r42⟩
       by_cases hjt:j<N
       . have lm:=S.ld (b:=bm) (o:=j) m2 (gZ (F:=jJ A f A.length) hjt)
         unfold jJ at lm
         have top:=lU A f j
         have w:ao .i64 ((j:Int)+1)=((j+1:Nat):Int):=by rw [wrap64]<;>omega
         have w2:ao .i64 ((start A f j:Int)+((outs A f A.length j).length:Nat))=((start A f j+(outs A f A.length j).length:Nat):Int):=by rw [wrap64]<;>omega
         have sl:eA xd 38 (.slice (some ⟨ba,0,none⟩) A.length A.length) (some (.int .i64 (start A f j))) (some (.int .i64 (start A f j))) (some (.int .i64 ((start A f j+(outs A f A.length j).length:Nat):Int)))=some (eW A f ba j 0):=by
          rw [slice_at xJ Tryz.s3 (by omega) (by omega)]
          unfold eW
          rw [yl,xA]
          by_cases hz:(outs A f A.length j).length=0
          . rw [if_pos (by omega),if_pos hz]
          . rw [if_neg (by omega),if_neg hz]
         have fr:Fl (eW A f ba j 0):=cy
         simp only [BS,LB,Nat.reduceLT,Nat.reduceEqDiff,Option.map_some,Tryz.FFt10144,r7,r8,r9,r40,r41,r42,aG,hjt,lm,w2,sl]
         refine az (aB S (i:=0) rfl Tryz.s38 fr (by simpa using hjt) ono) ?_
         clear S lm;rintro h ⟨S,mo⟩;clear mo
         simp only [LC]at S
         rw [show((xe N).map fun v=>if v<j then eW A f ba v 0 else .slice none 0 0).set j (eW A f ba j 0)=(xe N).map fun v=>if v<j+1 then eW A f ba v 0 else .slice none 0 0 from by
          have:=gw (N:=N) (k:=j) (F:=fun v=>if v<j then eW A f ba v 0 else .slice none 0 0) (F':=fun v=>if v<j+1 then eW A f ba v 0 else .slice none 0 0) (fun v hv hne=>by
           show ite _ _ _=ite _ _ _
           by_cases h1:v<j
           . rw [if_pos h1,if_pos (by omega)]
           . rw [if_neg h1,if_neg (by omega)])
          simp only [if_pos (show j<j+1 by omega)]at this
          exact this]at S
         simp only [BS,LB,Nat.reduceLT,Nat.reduceEqDiff,r9,r42,w,w2]
         exact ih (j+1) _ _ (by omega) ⟨by omega,S,by simp [aa,r0],by simp [aa,r1,ab],by simp [aa,r7],by simp [aa,r8],by simp [aa,start],by simp [aa,r40],by simp [aa,r41],by simp [aa]⟩
       . have hjN:j=N:=by omega
         subst hjN
         simp only [BS,LB,Nat.reduceLT,Nat.reduceEqDiff,Tryz.FFt10144,r1,r41,r42,aG,hjt,S.old l3 (fun h=>h),gA.lenq]
         have e1:((xe j).map fun v=>if v<j then eW A f ba v 0 else .slice none 0 0)=(xe j).map fun v=>eW A f ba v (outs A f 0 v).length:=by
          refine List.map_congr_left fun v hv=>?_
          rw [if_pos (List.mem_range.1 hv)];rfl
         rw [e1]at S
         refine aV (fun(i:Nat) ρ h=>i<=A.length/\(∃cs,re A f j i cs/\St NoM h0 h [(br,.row ((xe j).map fun v=>eW A f ba v (outs A f i v).length) 1),(ba,.row cs 1),(bm,.row ((xe j).map (jJ A f A.length)) 1)] [])/\
          ρ 0=.func (.func g) #[] #[]/\ρ 1=ptrTo b/\ρ 8=.slice (some ⟨br,0,none⟩) j j/\ρ 62=va/\ρ 63=.int .i64 A.length/\ρ 64=.int .i64 i) (fun i=>A.length-i) ?_ 0 _ _ ?_
         . clear S r0 r1 r7 r8 r9 r40 r41 r42
           intro i ih ρ h ⟨hi,⟨cs,hcs,S⟩,r0,r1,r8,r62,r63,r64⟩
           by_cases hlt:i<A.length
           . obtain⟨c,o,hidx,hld⟩:=(gA.gr S.gr).ix (kd:=.i64) et hlt
             have hfi:f A[i]<j:=hf _ (xX hlt)
             have w:ao .i64 ((i:Int)+1)=((i+1:Nat):Int):=by rw [wrap64]<;>omega
             simp only [BS,LB,Nat.reduceLT,Nat.reduceEqDiff,Tryz.FFt10144,r62,r63,r64,aG,hlt,hidx,hld]
             refine ag ax S ?_;clear S;intro h b13 S n_b13
             simp only [BS,LB,Nat.reduceLT,Nat.reduceEqDiff,cl]
             refine az (S.store (i:=0) rfl ?_ ?_ rfl rfl ?_ ono) ?_
             . exact(by exact yi)
             . exact(by intro x e;cases e)
             . exact lbt rfl
             clear S;rintro h ⟨S,mo⟩;clear mo;simp only [LC,ah,lay,xq,xt,Nat.reduceAdd]at S
             simp only [BS]
             refine aA (aI rfl) (q:=2184) (ps:=[(3,6)]) (by kernel_rfl) ?_
             simp only [BS,LB,cls,Nat.reduceLT,Nat.reduceEqDiff,Nat.reduceAdd,Nat.reducePow,Nat.reduceDiv,Nat.reduceMod,Nat.reduceLeDiff,Tryz.FFt10144,r0,r8,S.lds (b:=b13) (o:=0) (n:=3) m0 (lbt rfl)]
             refine rL (hk _ A[i] S.ok) ?_
             intro h g1;replace S:=S.call g1;clear g1
             simp only [BS,LB,cls,Nat.reduceLT,Nat.reduceEqDiff,Nat.reduceAdd,Nat.reducePow,Nat.reduceDiv,Nat.reduceMod,Nat.reduceLeDiff,Tryz.FFt10144,r0,r8,S.lds (b:=b13) (o:=0) (n:=3) m0 (lbt rfl)]
             refine rL (hk _ A[i] S.ok) ?_
             intro h g1;replace S:=S.call g1;clear g1
             have hd:A.getD i default=A[i]:=by simp [xc,hlt]
             have hl:(outs A f (i+1) (f A[i])).length<=(outs A f A.length (f A[i])).length:=rJ A f (by omega) _
             rw [fE,hd,if_pos rfl,xj,yq]at hl
             have top:=lU A f (f A[i])
             have hK:(outs A f A.length (f A[i])).length≠0:=by omega
             have lr:=S.ld (b:=br) (o:=f A[i]) m1 (gZ (F:=fun v=>eW A f ba v (outs A f i v).length) hfi)
             simp only [eW,if_neg hK]at lr
             simp only [BS,LB,cls,Nat.reduceLT,Nat.reduceEqDiff,Nat.reduceAdd,Nat.reducePow,Nat.reduceDiv,Nat.reduceMod,Nat.reduceLeDiff,Tryz.FFt10144,hfi,lr]
             refine dT (bW (by exact xJ) (by exact xQ) (by decide) (by rfl)) S ?_;clear S;intro h bs S n_bs e_bs;simp only [LC,aP,bj,ah,Nat.reduceMul,Nat.reduceAdd,xI,xy,xA,xV]at S
             simp only [BS,LB,cls,Nat.reduceLT,Nat.reduceEqDiff,Nat.reduceAdd,Nat.reducePow,Nat.reduceDiv,Nat.reduceMod,Nat.reduceLeDiff]
             obtain⟨h2,e2,S2,mo2⟩:=S.fill (i:=3) (x:=.slice (some ⟨bs,0,none⟩) 1 1) (v:=.int .i64 (i:Nat)) (off:=start A f (f A[i])) (len:=(outs A f i (f A[i])).length) (cap:=(outs A f A.length (f A[i])).length) (s:=none) rfl xJ xQ Tryz.n38
              (by simp only [aO];rw [S.lds (b:=bs) (o:=0) (n:=1*1) m0 (lbt rfl)];rfl) bO (by omega) (by have:=hcs.1;omega) ono (ts:=[])
             refine dn_v (P:=fun h' v=>h'=h2/\v=.slice (some ⟨ba,start A f (f A[i]),none⟩) ((outs A f i (f A[i])).length+1) (outs A f A.length (f A[i])).length) ⟨_,_,e2,rfl,rfl⟩ ?_
             rintro h v ⟨rfl,rfl⟩
             clear S e2 mo2;have S:=S2;clear S2
             simp only [LC]at S
             simp only [BS,LB,cls,Nat.reduceLT,Nat.reduceEqDiff,Nat.reduceAdd,Nat.reducePow,Nat.reduceDiv,Nat.reduceMod,Nat.reduceLeDiff,Tryz.FFt10144,hfi]
             refine dV (aB S (i:=2) rfl Tryz.s38 cy (by simpa using hfi) ono) ?_
             clear S;rintro h ⟨S,mo⟩;clear mo
             simp only [LC]at S
             have e3:((xe j).map fun v=>eW A f ba v (outs A f i v).length).set (f A[i]) (.slice (some ⟨ba,start A f (f A[i]),none⟩) ((outs A f i (f A[i])).length+1) (outs A f A.length (f A[i])).length)=(xe j).map fun v=>eW A f ba v (outs A f (i+1) v).length:=by
              have:=gw (N:=j) (k:=f A[i]) (F:=fun v=>eW A f ba v (outs A f i v).length) (F':=fun v=>eW A f ba v (outs A f (i+1) v).length) (fun v hv hne=>by
               show eW _ _ _ _ _=eW _ _ _ _ _
               rw [fE,hd,if_neg (fun e=>hne e.symm),xz])
              rw [<-this]
              congr 1
              show _=eW _ _ _ _ _
              rw [fE,hd,if_pos rfl,xj]
              unfold eW
              rw [if_neg hK];rfl
             rw [e3]at S
             replace S:=S.drop1.drop1
             simp only [BS,LB,Nat.reduceLT,Nat.reduceEqDiff,Nat.reduceAdd,r64,w]
             refine⟨by simp only [bH,bJ,aZ,bM,bn,ne_eq,not_false_eq_true,bT,cC,bE,bu,cg,dm,aU,Nat.reduceLT,Nat.reduceEqDiff,reduceIte,yx,r0,r1,r8,ab,note_runq,nC,nX,pair_n],?_⟩
             exact ih (i+1) _ _ (by omega) ⟨by omega,⟨_,fill_step hcs hlt,S⟩,by simp [aa,r0],by simp [aa,r1,ab],by simp [aa,r8],by simp [aa,r62],by simp [aa,r63],by simp [aa]⟩
           . have hiN:i=A.length:=by omega
             subst hiN
             simp only [BS,LB,ae,Nat.reduceLT,Nat.reduceEqDiff,r8,r63,r64,aG,hlt]
             refine⟨S.gr,br,_,rfl,n_br,S.row m0,by simp,fun v hv=>⟨_,gZ hv,.inr ⟨ba,_,none,_,rfl,xL _,?_⟩,fun c (hc:ba=c)=>hc▸n_ba⟩⟩
             have hR:=S.row (b:=ba) (l:=cs) (md:=1) m1
             have ht:=lU A f v
             have hl:=hcs.1
             rw [xA]
             by_cases hz:(outs A f A.length v).length=0
             . rw [if_pos hz,hz,hR.load (by omega)]
               rw [List.length_eq_zero_iff.1 hz];rfl
             . rw [if_neg hz,hR.load (by omega)]
               congr 1
               refine xH fun r=>?_
               have e4:(outs A f A.length v).flatMap cw=(outs A f A.length v).map fun x=>.int .i64 (x:Nat):=by
                rw [yr,List.map_eq_flatMap,yr];rfl
               rw [e4,yg,List.getElem?_take,List.getElem?_drop]
               by_cases hr:r<(outs A f A.length v).length
               . rw [if_pos hr,hcs.2 v r _ hv (xC hr),xC hr];rfl
               . rw [if_neg hr,xZ (by omega)];rfl
         . exact⟨yo _,⟨_,fill_zero,S⟩,by simp [aa,r0],by simp [aa,r1,ab],by simp [aa,r8],by simp [aa],by simp [aa],by simp [aa]⟩
     . exact⟨yo _,S,by simp [aa,r0],by simp [aa,r1,ab],by simp [aa],by simp [aa],by simp [aa,start],by simp [aa,r4],by simp [aa],by simp [aa]⟩
 . exact⟨yo _,S,by simp [aa,aQ],by simp [aa,aQ,bU,ab],by simp [aa],by simp [aa],by simp [aa],by simp [aa]⟩
open Tryz in
def Tryz.FFt1179:=aj a1<|aj s1<|aj z1<|aj n1<|aj u2<|aj a2<|aj s2<|aj z2<|aj i2<|aj u3<|aj a3<|aj s3<|aj z3<|aj i3<|aj u4<|aj a4<|aj s4<|aj z4<|aj n4<|aj u25<|aj a25<|aj s25<|aj z25<|aj q25<|aj n25<|aj u26<|aj a26<|aj s26<|aj z26<|aj q26<|aj n26<|aj a28<|aj s28<|aj z28<|aj i28<|aj n28<|aj p28<|aj ff28<|aj d28<|aj u29<|aj a29<|aj s29<|aj z29<|aj q29<|aj i29<|aj n29<|aj u38<|aj a38<|aj s38<|aj z38<|aj q38<|aj n38<|aj a49<|aj s49<|aj z49<|aj i49<|aj n49<|aj p49<|aj ff49<|aj d49<|aj u190<|aj a190<|aj s190<|aj z190<|aj q190<|aj n190<|aj a192<|aj s192<|aj z192<|aj i192<|aj n192<|aj p192<|aj ff192<|aj d192<|aj a219<|aj s219<|aj z219<|aj n219<|aj a220<|aj s220<|aj z220<|n220
open Tryz in
def Tryz.FFt1132:=aj a1<|aj s1<|aj z1<|aj n1<|aj u2<|aj a2<|aj s2<|aj z2<|aj i2<|aj u3<|aj a3<|aj s3<|aj z3<|aj i3<|aj u4<|aj a4<|aj s4<|aj z4<|aj n4<|aj u5<|aj a5<|aj s5<|aj z5<|aj i5<|aj u25<|aj a25<|aj s25<|aj z25<|aj q25<|aj n25<|aj u26<|aj a26<|aj s26<|aj z26<|aj q26<|aj n26<|aj a28<|aj s28<|aj z28<|aj i28<|aj n28<|aj p28<|aj ff28<|aj d28<|aj u29<|aj a29<|aj s29<|aj z29<|aj q29<|aj i29<|aj n29<|aj a49<|aj s49<|aj z49<|aj i49<|aj n49<|aj p49<|aj ff49<|aj d49<|aj u55<|aj a55<|aj s55<|aj z55<|aj i55<|aj a76<|aj s76<|aj z76<|aj q76<|aj n76<|aj a137<|aj s137<|aj z137<|aj i137<|aj n137<|aj p137<|aj ff137<|aj d137<|aj u139<|aj a139<|aj s139<|aj z139<|aj q139<|aj i139<|aj n139<|aj a141<|aj s141<|aj z141<|aj i141<|aj n141<|aj p141<|aj ff141<|aj d141<|aj u190<|aj a190<|aj s190<|aj z190<|aj q190<|aj n190<|aj a192<|aj s192<|aj z192<|aj i192<|aj n192<|aj p192<|aj ff192<|d192
theorem of_ok{h0:Hp}(ok:h0.t.Sized h0.n){γ:Gra}(hγ:Good γ){vx vy va:Value}(ga:cM h0 vx vy va γ){m:Nat}(hm:m<=h0.n)(hz: ∀c,au vx c\/au vy c\/au va c->m<=c):
 Ret xd 79 [iq γ vx vy va] h0 fun v h'=>Gr h0 h'/\aY h' m v γ:=by
 have S:=Si ok
 refine ac (n:=20) (rs:=[.tmp 2]) rfl Tryz.e79 rfl rfl rfl (lbt rfl) ?_
 simp only [BS,Nat.reduceLT,iq]
 refine ag (bR (by intro x e;cases e)) S ?_;clear S;intro h b S n_b;simp only [ah]at S
 simp only [BS,LB,Nat.reduceLT,Nat.reduceEqDiff,Nat.reduceAdd,Nat.reduceLeDiff,Tryz.FFt1179,yt,xN,yd,S.lds (b:=b) (o:=0) (n:=4) m0 (lbt rfl)]
 refine ag (bR (by intro x e;cases e)) S ?_;clear S;intro h b2 S n_b2;simp only [ah]at S
 simp only [BS,LB,Nat.reduceLT,Nat.reduceEqDiff]
 have k1:=S.fr.n
 have lt1:=(S.row (b:=b2) m0).lt S.ok
 refine step_ret (of1_ok S.ok hγ (S.row m1) (ga.gr S.gr) of2_key (fun a ha=>(hγ.arcs a ha).1)) ?_;intro vo h ⟨g,R1⟩;replace S:=S.call g;clear g
 simp only [BS,LB,Nat.reduceLT,Nat.reduceEqDiff]
 have k2:=S.fr.n
 have lt2:=(S.row (b:=b2) m0).lt S.ok
 refine step_ret (of1_ok S.ok hγ (S.row m1) (ga.gr S.gr) of3_key (fun a ha=>(hγ.arcs a ha).2.1)) ?_;intro v h ⟨g,R2⟩;replace S:=S.call g;replace R1:=R1.gr g;clear g
 have f1:Fl v:=by obtain⟨_,_,rfl,_⟩:=R2;exact cy
 have f2:Fl vo:=by obtain⟨_,_,rfl,_⟩:=R1;exact cy
 simp only [BS,LB,Nat.reduceLT,Nat.reduceEqDiff,Tryz.FFt1179]
 have a1: ∀c,c=b2->c<_:=fun c e=>e▸lt1
 have a2: ∀c,c=b2->c<_:=fun c e=>e▸lt2
 refine az (aB S (i:=0) rfl ?_ ?_ ?_ ono) ?_
 . exact(by simp only [Tryz.FFt1179])
 . exact(by assumption)
 . exact xm (lbt rfl)
 clear S;rintro h ⟨S,mo⟩;replace R1:=R1.mo mo a1;replace R2:=R2.mo mo a2;clear mo;simp only [LC,ah,lay,xq,xt,Nat.reduceAdd]at S
 simp only [BS,LB,Nat.reduceLT,Nat.reduceEqDiff,Tryz.FFt1179]
 refine az (aB S (i:=0) rfl ?_ ?_ ?_ ono) ?_
 . exact(by simp only [Tryz.FFt1179])
 . exact(by assumption)
 . exact xm (lbt rfl)
 clear S;rintro h ⟨S,mo⟩;replace R1:=R1.mo mo a1;replace R2:=R2.mo mo a2;clear mo;simp only [LC,ah,lay,xq,xt,Nat.reduceAdd]at S
 simp only [BS,LB,ae,Nat.reduceLT,Nat.reduceEqDiff]
 exact⟨S.gr,b2,vx,vy,va,vo,v,rfl,S.row m0,ga.gr S.gr,R1.low (xw hm k1),R2.low (xw hm k2),xw hm n_b2,hz⟩
theorem netNew_ok{h0:Hp}(ok:h0.t.Sized h0.n){γ:Gra}(hγ:Good γ){vx vy va:Value}(ga:cM h0 vx vy va γ):
 Ret xd 32 [iq γ vx vy va] h0 fun r h'=> ∃v,r=.tuple #[v,.nilIface]/\Gr h0 h'/\aY h' h0.n v γ:=by
 have S:=Si ok
 refine ac (n:=17) (rs:=[.tmp 2,.tmp 3]) rfl Tryz.e32 rfl rfl rfl (lbt rfl) ?_
 simp only [BS,Nat.reduceLT,iq]
 refine ag (bR (by intro x e;cases e)) S ?_;clear S;intro h b S n_b;simp only [ah]at S
 simp only [BS,LB,Nat.reduceLT,Nat.reduceEqDiff,Tryz.FFt1132,yt,xN,yd,S.lds (b:=b) (o:=0) (n:=4) m0 (lbt rfl)]
 refine aq (check_ok S.ok hγ (ga.gr S.gr)) ?_;intro h g;replace S:=S.call g;clear g
 simp only [BS,LB,Nat.reduceLT,Nat.reduceEqDiff,Tryz.FFt1132,yt,xN,yd,S.lds (b:=b) (o:=0) (n:=4) m0 (lbt rfl)]
 have k1:=S.fr.n
 refine step_ret (own_ok S.ok hγ (ga.gr S.gr)) ?_;intro v h ⟨g,vx',vy',va',ev,ga',hz,_⟩;replace S:=S.call g;clear g
 subst ev
 simp only [BS,LB,Nat.reduceLT,Nat.reduceEqDiff]
 refine step_ret (of_ok S.ok hγ ga' (m:=h0.n) S.fr.n (fun c hc=>xw k1 (hz c hc))) ?_;intro v h ⟨g,R⟩;replace S:=S.call g;clear g
 simp only [BS,LB,ae,Nat.reduceLT,Nat.reduceEqDiff]
 exact⟨_,rfl,S.gr,R⟩
open Tryz in
def Tryz.FFt12198:=aj a1<|aj s1<|aj z1<|aj n1<|aj u2<|aj a2<|aj s2<|aj z2<|aj i2<|aj u3<|aj a3<|aj s3<|aj z3<|aj i3<|aj u4<|aj a4<|aj s4<|aj z4<|aj n4<|aj u5<|aj a5<|aj s5<|aj z5<|aj i5<|aj u242<|aj a242<|aj s242<|aj z242<|n242
open Tryz in
def Tryz.FFt12116:=aj a1<|aj s1<|aj z1<|aj n1<|aj u2<|aj a2<|aj s2<|aj z2<|aj i2<|aj u3<|aj a3<|aj s3<|aj z3<|aj i3<|aj a60<|aj s60<|aj z60<|aj n60<|aj u242<|aj a242<|aj s242<|aj z242<|n242
open Tryz in
def Tryz.FFt12115:=aj a1<|aj s1<|aj z1<|aj n1<|aj u2<|aj a2<|aj s2<|aj z2<|aj i2<|aj u3<|aj a3<|aj s3<|aj z3<|aj i3<|aj u4<|aj a4<|aj s4<|aj z4<|aj n4<|aj u5<|aj a5<|aj s5<|aj z5<|aj i5<|aj u6<|aj a6<|aj s6<|aj z6<|aj i6<|aj u38<|aj a38<|aj s38<|aj z38<|aj q38<|aj n38<|aj a60<|aj s60<|aj z60<|n60
def pos:List Int->Int->Option Nat
 | [],_=>none
 |y::ys,x=>if x=y then some 0 else(pos ys x).map (· +1)
def gK:Nat->List Int->List (Value×Value×Nat)
 |_,[]=>[]
 |o,x::xs=>(.int .i64 x,.int .i64 (o:Nat),o)::gK (o+1) xs
theorem ents_app(o:Nat)(l:List Int)(x:Int):gK o (l++[x])=gK o l++[(.int .i64 x,.int .i64 ((o+l.length:Nat):Int),o+l.length)]:=by
 induction l generalizing o with
 |nil=>rfl
 | cons y ys ih=>
   show _::gK (o+1) (ys++[x])=_::(gK (o+1) ys++_)
   rw [ih,xW,show o+1+ys.length=o+(ys.length+1) by omega]
theorem ents_len(o:Nat)(l:List Int):(gK o l).length=l.length:=by
 induction l generalizing o with
 |nil=>rfl
 |cons y ys ih=>show(gK (o+1) ys).length+1=_;rw [ih];rfl
theorem keq_int{x y:Int}:bN (.int .i64 x) (.int .i64 y)=some (decide (x=y)):=by
 show some (fH x y)=_
 congr 1
 rw [jI]
theorem qJ(o:Nat)(l:List Int)(x:Int):bD (.int .i64 x) (gK o l)=some ((pos l x).map fun i=>(.int .i64 ((o+i:Nat):Int),o+i)):=by
 induction l generalizing o with
 |nil=>rfl
 | cons y ys ih=>
   show(match bN (.int .i64 x) (.int .i64 y)with|none=>none|some true=>some (some (Value.int .i64 (o:Nat),o))|some false=>bD (.int .i64 x) (gK (o+1) ys))=_
   rw [keq_int,pos]
   by_cases h:x=y
   . rw [if_pos h,decide_eq_true h];rfl
   . rw [if_neg h,decide_eq_false h]
     show bD (.int .i64 x) (gK (o+1) ys)=_
     rw [ih]
     cases pos ys x with
     |none=>rfl
     |some i=>simp;omega
theorem St.mput{M:Nat->Prop}{h0 h:Hp}{L:List (Nat×Ob)}{G:List GL}(S:St M h0 h L G){E:Env}{t kt el:TypeId}{i b c:Nat}{es:List (Value×Value×Nat)}{k v:Value}(hi:L[i]? =some (b,.map es c))(hu:E.und t=some (.map kt el))(hf:aN E kt k=true)(hn:bD k es=some none):
 ∃h',fQ E h t (.map (some b)) k v=some h'/\St M h0 h' (L.set i (b,.map (es++[(k,v,c)]) (c+1))) G:=by
 have hg:h.get b=some (.map es c):=(S.own _ (xp hi)).2
 refine⟨h.put b (.map (es++[(k,v,c)]) (c+1)),?_,S.put hi ?_⟩
 . simp only [fQ,ik,hu,hf,cond_true,hg,hn]
 . show(h.put b _).get b=_
   rw [Hp.get_put,if_pos ⟨rfl,by rw [hg];rfl⟩]
theorem vj{E:Env}{h:Hp}{t kt el:TypeId}{b c:Nat}{l:List Int}{x:Int}(hu:E.und t=some (.map kt el))(hk:E.und kt=some (.int .i64))(hz:E.zeroV el=some (.int .i64 0))(hg:h.get b=some (.map (gK 0 l) c)):
 cS E h t (.map (some b)) (.int .i64 x) true=some (match pos l x with|some i=>.tuple #[.int .i64 (i:Nat),.bool true]|none=>.tuple #[.int .i64 0,.bool false]):=by
 have hf:aN E kt (.int .i64 x)=true:=by simp only [aN,hk];rfl
 simp only [cS,hu,hf,cond_true,hg,qJ,hz]
 cases pos l x with
 |none=>rfl
 |some i=>simp
def kj(ks:List Int)(x:Int):Nat:=match pos ks x with|some i=>i|none=>ks.length
def ku(ks:List Int)(x:Int):List Int:=match pos ks x with|some _=>ks|none=>ks++[x]
def norm:List Int->List Int->List Int
 |_,[]=>[]
 |ks,x::xs=>(kj ks x:Int)::norm (ku ks x) xs
theorem name_ok{h0:Hp}(ok:h0.t.Sized h0.n){bx bm:Nat}{ks:List Int}{x:Int}(hx:Row h0 bx [.map (some bm)] 1)(hm:h0.get bm=some (.map (gK 0 ks) ks.length)):
 Ret xd 198 [.int .i64 x,ptrTo bx] h0 fun v h'=>Mo (· =bm) h0 h'/\v=.int .i64 (kj ks x)/\h'.get bm=some (.map (gK 0 (ku ks x)) (ku ks x).length):=by
 have S:=St.init1 ok (o:=.map (gK 0 ks) ks.length) hm
 have lx:=hx.load1 (o:=0) rfl
 have hl:=vj (x:=x) xB xM (by kernel_rfl) hm
 have ln:jY (some (.map 3 3)) h0 (.map (some bm))=some (.val (.int .i64 (gK 0 ks).length),h0):=lenq_map hm
 rw [ents_len]at ln
 unfold kj ku
 cases hp:pos ks x with
 | some i=>
   rw [hp]at hl
   refine ac (n:=20) (rs:=[.tmp 3]) rfl Tryz.e198 rfl rfl rfl (lbt rfl) ?_
   simp only [BS,LB,ae,Nat.reduceLT,Nat.reduceEqDiff,Tryz.FFt12198,lx,hl]
   exact⟨S.fr,hm⟩
 | none=>
   rw [hp]at hl
   refine ac (n:=20) (rs:=[.tmp 3]) rfl Tryz.e198 rfl rfl rfl (lbt rfl) ?_
   simp only [BS,LB,Nat.reduceLT,Nat.reduceEqDiff,Tryz.FFt12198,lx,hl,ln]
   refine az (S.mput (i:=0) rfl xB (by simp only [aN,xM];rfl) (by rw [qJ,hp];rfl)) ?_
   clear S;intro h S
   simp only [LC]at S
   simp only [BS,LB,ae,Nat.reduceLT,Nat.reduceEqDiff]
   have hg:h.get bm=some (.map (gK 0 ks++[(.int .i64 x,.int .i64 ks.length,ks.length)]) (ks.length+1)):=(S.own _ m0).2
   refine⟨S.fr,?_⟩
   rw [ents_app,xj,xy];exact hg
theorem namer_ok{h0:Hp}(ok:h0.t.Sized h0.n):Ret xd 116 [] h0 fun v h'=>Gr h0 h'/\ ∃bx bm,v=.func (.func 198) #[] #[ptrTo bx]/\h0.n<=bx/\h0.n<=bm/\Row h' bx [.map (some bm)] 1/\h'.get bm=some (.map [] 0):=by
 have S:=Si ok
 refine ac (n:=4) (rs:=[.tmp 0]) rfl Tryz.e116 rfl rfl rfl (lbt rfl) ?_
 simp only [BS]
 refine ag rG S ?_;clear S;intro h bm S n_bm
 simp only [BS,Tryz.FFt12116]
 refine ag ax S ?_;clear S;intro h bx S n_bx
 simp only [BS,LB,Nat.reduceLT,Nat.reduceEqDiff]
 refine az (aB S (i:=0) rfl ?_ ?_ ?_ ono) ?_
 . exact(by simp only [Tryz.FFt12116])
 . exact(by exact fl_map)
 . exact xm (lbt rfl)
 clear S;rintro h ⟨S,mo⟩;clear mo;simp only [LC,ah,lay,xq,xt,Nat.reduceAdd]at S
 simp only [BS,LB,ae,Nat.reduceLT,Nat.reduceEqDiff]
 exact⟨S.gr,bx,bm,rfl,n_bx,n_bm,S.row m0,(S.own _ m1).2⟩
theorem each_ok{h0:Hp}(ok:h0.t.Sized h0.n){bx bm:Nat}{ks l:List Int}{v:Value}(hx:Row h0 bx [.map (some bm)] 1)(hm:h0.get bm=some (.map (gK 0 ks) ks.length))(hv:aE h0 1 (encI .i64) v l)(hl:l.length<1000):
 Ret xd 115 [v,.func (.func 198) #[] #[ptrTo bx]] h0 fun r h'=>Mo (· =bm) h0 h'/\aE h' 1 (encI .i64) r (norm ks l)/\ ∀c,au r c->h0.n<=c:=by
 have S:=St.init1 ok (o:=.map (gK 0 ks) ks.length) hm
 have hvb: ∀c,au v c-> ¬c=bm:=by
  rintro c hc rfl
  rcases hv with⟨rfl,_⟩|⟨b,o,s,c',rfl,_,h3⟩
  . exact hc.elim
  . have:b=c:=hc
    subst this
    simp [Hp.load,hm]at h3
 have hxb: ¬bx=bm:=by
  rintro rfl
  obtain⟨t,el,e,_⟩:=hx
  rw [hm]at e;cases e
 refine ac (n:=21) (rs:=[.tmp 4]) rfl Tryz.e115 rfl rfl rfl (lbt rfl) ?_
 simp only [BS,LB,Nat.reduceLT,Nat.reduceEqDiff,Tryz.FFt12115,hv.lenq]
 replace S:=S.nilG (k:=1)
 refine aV (fun(i:Nat) ρ h=>i<=l.length/\ ∃(ks' done:List Int) (vR:Value),norm ks l=done++norm ks' (l.drop i)/\done.length=i/\St (· =bm) h0 h [(bm,.map (gK 0 ks') ks'.length)] [(vR,1,ints done)]/\
  ρ 1=.func (.func 198) #[] #[ptrTo bx]/\ρ 4=vR/\ρ 7=v/\ρ 8=.int .i64 l.length/\ρ 9=.int .i64 i) (fun i=>l.length-i) ?_ 0 _ _ ?_
 . clear S
   intro i ih ρ h ⟨hi,ks',done,vR,hn,hd,S,r1,r4,r7,r8,r9⟩
   by_cases hlt:i<l.length
   . obtain⟨c,o,hidx,hld⟩:=(hv.mo S.fr hvb).ix (kd:=.i64) (cu .i64) hlt
     have w:ao .i64 ((i:Int)+1)=((i+1:Nat):Int):=by rw [wrap64]<;>omega
     simp only [BS,LB,Nat.reduceLT,Nat.reduceEqDiff,Tryz.FFt12115,r1,r4,r7,r8,r9,aG,hlt,hidx,hld,encI]
     refine step_ret (name_ok S.ok (S.fr.has (o:=.row _ 1) hx hxb) (S.own _ m0).2) ?_
     rintro r h ⟨f,rfl,hg⟩
     replace S:=S.call1 (i:=0) rfl f (o':=.map _ _) hg
     simp only [LC]at S
     simp only [BS,LB,Nat.reduceLT,Nat.reduceEqDiff]
     refine ag (bW (by exact xJ) (by exact xQ) (by decide) (by rfl)) S ?_;clear S;intro h bs S n_bs;simp only [LC,aP,bj,ah,Nat.reduceMul,Nat.reduceAdd,xI,xy,xA,xV]at S
     simp only [BS,LB,Nat.reduceLT,Nat.reduceEqDiff]
     refine e6 (S.grow (j:=0) (m:=1) (new:=ints [(kj ks' l[i]:Int)]) rfl xJ xQ (by decide) Tryz.n38 (by simp only [aO];rw [S.lds (b:=bs) (o:=0) (n:=1*1) m0 (lbt rfl)];rfl) rfl (by decide) rfl (by rw [cN,cN];simp;omega)) ?_
     clear S f hg hld
     rintro h vX' S
     simp only [LC]at S
     replace S:=S.drop1
     rw [<-lN]at S
     simp only [BS,LB,Nat.reduceLT,Nat.reduceEqDiff,r9,w]
     refine ih (i+1) _ _ (by omega) ⟨by omega,_,_,_,?_,?_,S,by simp [aa,r1,ab],by simp [aa],by simp [aa,r7],by simp [aa,r8],by simp [aa]⟩
     . rw [hn,xO hlt,norm,List.append_assoc];rfl
     . simp [hd]
   . have hiN:i=l.length:=by omega
     simp only [BS,LB,ae,Nat.reduceLT,Nat.reduceEqDiff,r4,r8,r9,aG,hlt]
     have e:norm ks l=done:=by rw [hn,hiN,List.drop_length,norm,xz]
     rw [e]
     exact⟨S.fr,(S.gown _ m0).1.sl rfl (cu .i64) (by decide),fun c hc=>((S.gblk m0 hc).1).elim (fun h=>h) (fun h=>((S.gblk m0 hc).2 (by simp [h])).elim)⟩
 . exact⟨yo _,ks,[],_,rfl,rfl,S,by simp [aa,aQ,bU,ab],by simp [aa],by simp [aa,aQ],by simp [aa],by simp [aa]⟩
end Go.Ab
end
section
namespace Go.Ab
structure Hd where
 id:Nat
 key:Int
deriving Inhabited,DecidableEq
def hle(a b:Hd):Prop:=a.key<b.key\/(a.key=b.key/\a.id<=b.id)
def hlt(a b:Hd):Prop:=a.key<b.key\/(a.key=b.key/\a.id<b.id)
instance (a b:Hd):Decidable (hlt a b):=by unfold hlt;infer_instance
theorem qZ{a b:Hd}(h: ¬hlt a b):hle b a:=by unfold hlt at h;unfold hle;omega
theorem oF{a b:Hd}(h:hlt a b):hle a b:=by unfold hlt at h;unfold hle;omega
theorem iD{a b c:Hd}(h:hle a b)(k:hle b c):hle a c:=by unfold hle at*;omega
theorem qc(a:Hd):hle a a:=by unfold hle;omega
def sw(l:List Hd)(i k:Nat):List Hd:=(l.set i (l.getD k default)).set k (l.getD i default)
theorem eX(l:List Hd)(i k:Nat):(sw l i k).length=l.length:=by simp [sw]
theorem im(l:List Hd)(i j:Nat)(x:Hd):(l.set i x).getD j default=if i=j/\j<l.length then x else l.getD j default:=by
 rw [xc,xc,xx]
 by_cases h:i=j
 . subst h
   by_cases h2:i<l.length
   . simp [h2]
   . simp [h2]
 . simp [h]
theorem fM(l:List Hd){i k:Nat}(hi:i<l.length)(hk:k<l.length)(j:Nat):(sw l i k).getD j default=if j=k then l.getD i default else if j=i then l.getD k default else l.getD j default:=by
 unfold sw
 rw [im,im,xg]
 by_cases h1:k=j
 . subst h1;simp [hk]
 . have h1': ¬j=k:=fun e=>h1 e.symm
   simp only [h1,h1',false_and,if_false]
   by_cases h2:i=j
   . subst h2;simp [hi]
   . have h2': ¬j=i:=fun e=>h2 e.symm
     simp [h2,h2']
theorem pf(l:List Hd){i k:Nat}(hi:i<l.length)(hk:k<l.length):(sw l i k).Perm l:=by
 have:((l.set i l[k]).set k l[i]).Perm l:=List.set_set_perm hi hk
 unfold sw
 rwa [show l.getD k default=l[k] by simp [xc,hk],show l.getD i default=l[i] by simp [xc,hi]]
def ju(l:List Hd):Prop:= ∀j,0<j->j<l.length->hle (l.getD ((j-1)/4) default) (l.getD j default)
def mX(l:List Hd)(i:Nat):Prop:=(∀j,0<j->j<l.length->j≠i->hle (l.getD ((j-1)/4) default) (l.getD j default))/\ ∀j,0<j->j<l.length->(j-1)/4=i->0<i->hle (l.getD ((i-1)/4) default) (l.getD j default)
theorem up_done{l:List Hd}{i:Nat}(h:mX l i)(hd:i=0\/hle (l.getD ((i-1)/4) default) (l.getD i default)):ju l:=by
 intro j h0 hj
 by_cases e:j=i
 . subst e;exact hd.resolve_left (by omega)
 . exact h.1 j h0 hj e
theorem up_step{l:List Hd}{i:Nat}(hi:i<l.length)(h:mX l i)(h0:0<i)(hd:hlt (l.getD i default) (l.getD ((i-1)/4) default)):mX (sw l i ((i-1)/4)) ((i-1)/4):=by
 have hp:(i-1)/4<l.length:=by omega
 generalize hpe:(i-1)/4=p at*
 have pi:p<i:=by omega
 refine⟨fun j j0 jl jp=>?_,fun j j0 jl jp p0=>?_⟩
 . rw [eX]at jl
   rw [fM l hi hp,fM l hi hp,if_neg jp]
   by_cases e1:j=i
   . subst e1;rw [hpe,if_pos rfl,if_pos rfl];exact oF hd
   . rw [if_neg e1]
     by_cases e2:(j-1)/4=p
     . rw [if_pos e2]
       have:=h.1 j j0 jl e1
       rw [e2]at this
       exact iD (oF hd) this
     . rw [if_neg e2]
       by_cases e3:(j-1)/4=i
       . rw [if_pos e3];have:=h.2 j j0 jl e3 h0;rwa [hpe]at this
       . rw [if_neg e3];exact h.1 j j0 jl e1
 . rw [eX]at jl
   have q1: ¬(p-1)/4=p:=by omega
   have q2: ¬(p-1)/4=i:=by omega
   rw [fM l hi hp,fM l hi hp,if_neg q1,if_neg q2,if_neg (show¬j=p by omega)]
   have k1:=h.1 p p0 hp (by omega)
   by_cases e1:j=i
   . rw [if_pos e1];exact k1
   . rw [if_neg e1]
     have:=h.1 j j0 jl e1
     rw [jp]at this
     exact iD k1 this
def oZ(l:List Hd)(i:Nat):Prop:=(∀j,0<j->j<l.length->(j-1)/4≠i->hle (l.getD ((j-1)/4) default) (l.getD j default))/\ ∀j,0<j->j<l.length->(j-1)/4=i->0<i->hle (l.getD ((i-1)/4) default) (l.getD j default)
theorem dn_done{l:List Hd}{i:Nat}(h:oZ l i)(hd: ∀j,0<j->j<l.length->(j-1)/4=i->hle (l.getD i default) (l.getD j default)):ju l:=by
 intro j h0 hj
 by_cases e:(j-1)/4=i
 . rw [e];exact hd j h0 hj e
 . exact h.1 j h0 hj e
theorem dn_step{l:List Hd}{i b:Nat}(h:oZ l i)(b0:0<b)(bl:b<l.length)(be:(b-1)/4=i)(hd:hlt (l.getD b default) (l.getD i default))(hm: ∀j,0<j->j<l.length->(j-1)/4=i->hle (l.getD b default) (l.getD j default)):oZ (sw l i b) b:=by
 have il:i<l.length:=by omega
 refine⟨fun j j0 jl jp=>?_,fun j j0 jl jp _=>?_⟩
 . rw [eX]at jl
   rw [fM l il bl,fM l il bl,if_neg jp]
   by_cases e1:(j-1)/4=i
   . rw [if_pos e1]
     by_cases e2:j=b
     . rw [if_pos e2];exact oF hd
     . rw [if_neg e2,if_neg (show¬j=i by omega)];exact hm j j0 jl e1
   . rw [if_neg e1]
     by_cases e2:j=b
     . subst e2;exact absurd be e1
     . rw [if_neg e2]
       by_cases e3:j=i
       . subst e3;rw [if_pos rfl];exact h.2 b b0 bl be j0
       . rw [if_neg e3];exact h.1 j j0 jl e1
 . rw [eX]at jl
   rw [fM l il bl,fM l il bl,be,if_neg (show¬i=b by omega),if_pos rfl,if_neg (show¬j=b by omega),if_neg (show¬j=i by omega)]
   have:=h.1 j j0 jl (by omega)
   rwa [jp]at this
theorem heap_min{l:List Hd}(h:ju l): ∀j,j<l.length->hle (l.getD 0 default) (l.getD j default):=by
 intro j
 induction j using Nat.strongRecOn with
 | _ j ih=>
   intro hj
   by_cases e:j=0
   . subst e;exact qc _
   . exact iD (ih ((j-1)/4) (by omega) (by omega)) (h j (by omega) hj)
theorem iT(l m:List Hd){j:Nat}(hj:j<l.length):(l++m).getD j default=l.getD j default:=by
 rw [xc,xc,xP hj]
theorem sE{l:List Hd}(h:ju l)(x:Hd):mX (l++[x]) l.length:=by
 refine⟨fun j j0 jl jp=>?_,fun j j0 jl jp _=>?_⟩
 . simp at jl
   rw [iT l _ (by omega),iT l _ (by omega)]
   exact h j j0 (by omega)
 . simp at jl;omega
theorem wL{l:List Hd}(h:ju l){i:Nat}{x:Hd}(hx:hle x (l.getD i default)):mX (l.set i x) i:=by
 refine⟨fun j j0 jl jp=>?_,fun j j0 jl jp i0=>?_⟩
 . rw [xg]at jl
   rw [im,im,if_neg (show¬(i=j/\_)from fun e=>jp e.1.symm)]
   split
   . rename_i e;have:=h j j0 jl;rw [<-e.1]at this;exact iD hx this
   . exact h j j0 jl
 . rw [xg]at jl
   rw [im,im,if_neg (show¬(i=j/\_) by omega),if_neg (show¬(i=(i-1)/4/\_) by omega)]
   have k1:=h i i0 (by omega)
   have k2:=h j j0 jl
   rw [jp]at k2
   exact iD k1 k2
theorem getD_take(l:List Hd){n j:Nat}(hj:j<n):(l.take n).getD j default=l.getD j default:=by
 rw [xc,xc,yj hj]
theorem heap_pop{l:List Hd}(h:ju l)(hl:0<l.length):oZ ((sw l 0 (l.length-1)).take (l.length-1)) 0:=by
 refine⟨fun j j0 jl jp=>?_,fun j j0 jl jp i0=>?_⟩
 . rw [xE,eX]at jl
   rw [getD_take _ (by omega),getD_take _ (by omega),fM l (by omega) (by omega),fM l (by omega) (by omega),if_neg (by omega),if_neg (by omega),if_neg (by omega),if_neg (by omega)]
   exact h j j0 (by omega)
 . omega
def eZ(l:List Hd)(K:Nat->Option Int):Prop:=(l.map Hd.id).Nodup/\ ∀v k,K v=some k↔⟨v,k⟩∈l
def bV(K:Nat->Option Int)(v:Nat)(x:Option Int):Nat->Option Int:=fun u=>if u=v then x else K u
theorem eZ.perm{l m:List Hd}{K:Nat->Option Int}(h:eZ l K)(p:m.Perm l):eZ m K:=
 ⟨(p.map Hd.id).nodup_iff.2 h.1,fun v k=>by rw [h.2];exact p.mem_iff.symm⟩
theorem eZ.free{l:List Hd}{K:Nat->Option Int}(h:eZ l K){v:Nat}(hv:K v=none):v∉l.map Hd.id:=by
 intro hm
 obtain⟨x,hx,rfl⟩:=List.mem_map.1 hm
 have:=(h.2 x.id x.key).2 hx
 rw [hv]at this;cases this
theorem eZ.push{l:List Hd}{K:Nat->Option Int}(h:eZ l K){v:Nat}(hv:K v=none)(k:Int):eZ (l++[⟨v,k⟩]) (bV K v (some k)):=by
 refine⟨?_,fun u x=>?_⟩
 . rw [xn,xf]
   exact⟨h.1,by simp,fun a ha b hb e=>h.free hv (by simp at hb;subst hb;subst e;exact ha)⟩
 . unfold bV
   by_cases e:u=v
   . subst e
     rw [if_pos rfl,ym]
     constructor
     . intro e;cases e;exact .inr (by simp)
     . rintro(h1|h1)
       . have:=(h.2 u x).2 h1;rw [hv]at this;cases this
       . simp at h1;rw [h1]
   . rw [if_neg e,ym,h.2]
     constructor
     . exact .inl
     . rintro(h1|h1)
       . exact h1
       . simp at h1;exact absurd h1.1 e
theorem nodup_idx{l:List Hd}(h:(l.map Hd.id).Nodup){i j:Nat}(hi:i<l.length)(hj:j<l.length)(e:(l.getD i default).id=(l.getD j default).id):i=j:=by
 refine lQ h (x:=(l.getD i default).id) (by simp [hi]) ?_
 rw [e];simp [hj]
theorem eZ.lower{l:List Hd}{K:Nat->Option Int}(h:eZ l K){i:Nat}(hi:i<l.length)(k:Int):eZ (l.set i ⟨(l.getD i default).id,k⟩) (bV K (l.getD i default).id (some k)):=by
 have e1:(l.set i ⟨(l.getD i default).id,k⟩).map Hd.id=l.map Hd.id:=by
  rw [List.map_set]
  refine xH fun j=>?_
  rw [xx]
  split
  . rename_i e;subst e;simp [hi]
  . rfl
 refine⟨by rw [e1];exact h.1,fun u x=>?_⟩
 unfold bV
 by_cases e:u=(l.getD i default).id
 . rw [if_pos e]
   constructor
   . intro e2;cases e2;subst e;exact List.mem_iff_getElem?.2 ⟨i,by simp [hi]⟩
   . intro hm
     obtain⟨j,hj⟩:=List.mem_iff_getElem?.1 hm
     rw [xx]at hj
     split at hj
     . cases hj;rfl
     . rename_i hne
       have hjl:=(List.getElem?_eq_some_iff.1 hj).1
       exact absurd (nodup_idx h.1 hi hjl (by rw [<-e];simp [xc,hj])) hne
 . rw [if_neg e,h.2]
   constructor
   . intro hm
     obtain⟨j,hj⟩:=List.mem_iff_getElem?.1 hm
     refine List.mem_iff_getElem?.2 ⟨j,?_⟩
     rw [xx,if_neg ?_]
     . exact hj
     . rintro rfl
       apply e
       simp [xc,hj]
   . intro hm
     obtain⟨j,hj⟩:=List.mem_iff_getElem?.1 hm
     rw [xx]at hj
     split at hj
     . cases hj;exact absurd rfl e
     . exact xp hj
theorem eZ.pop{l:List Hd}{K:Nat->Option Int}(h:eZ l K)(hl:0<l.length):eZ ((sw l 0 (l.length-1)).take (l.length-1)) (bV K (l.getD 0 default).id none):=by
 have p:=pf l (i:=0) (k:=l.length-1) hl (by omega)
 have h2:=h.perm p
 have e:sw l 0 (l.length-1)=(sw l 0 (l.length-1)).take (l.length-1)++[l.getD 0 default]:=by
  refine xH fun j=>?_
  have hs:=fM l (i:=0) (k:=l.length-1) hl (by omega) (l.length-1)
  rw [if_pos rfl]at hs
  have sl:=eX l 0 (l.length-1)
  by_cases hj:j<l.length-1
  . rw [xP (by simp [sl];omega),yj hj]
  . by_cases hj2:j=l.length-1
    . subst hj2
      rw [xK (by simp [sl])]
      rw [<-hs]
      simp [sl,xc,show l.length-1<l.length by omega]
    . rw [xZ (by omega),xZ (by simp [sl];omega)]
 generalize(sw l 0 (l.length-1)).take (l.length-1)=m at*
 generalize l.getD 0 default=x at*
 rw [e]at h2
 obtain⟨n1,n2⟩:=h2
 rw [xn,xf]at n1
 refine⟨n1.1,fun v k=>?_⟩
 unfold bV
 by_cases ev:v=x.id
 . rw [if_pos ev]
   constructor
   . intro h;cases h
   . intro hm
     exact absurd ev (n1.2.2 v (xh (f:=Hd.id) hm) x.id (by simp))
 . rw [if_neg ev,n2,ym]
   constructor
   . rintro(h|h)
     . exact h
     . simp at h;exact absurd (by rw [<-h]) ev
   . exact .inl
theorem eZ.at{l:List Hd}{K:Nat->Option Int}(h:eZ l K){i:Nat}(hi:i<l.length):K (l.getD i default).id=some (l.getD i default).key:=
 (h.2 _ _).2 (List.mem_iff_getElem?.2 ⟨i,by simp [hi]⟩)
theorem eZ.idx{l:List Hd}{K:Nat->Option Int}(h:eZ l K){v:Nat}{k:Int}(hv:K v=some k): ∃i,i<l.length/\l.getD i default=⟨v,k⟩:=by
 obtain⟨i,hi⟩:=List.mem_iff_getElem?.1 ((h.2 v k).1 hv)
 exact⟨i,(List.getElem?_eq_some_iff.1 hi).1,by simp [xc,hi]⟩
theorem eZ.nil{K:Nat->Option Int}(h:eZ [] K)(v:Nat):K v=none:=by
 cases hk:K v with
 |none=>rfl
 |some k=>have:=(h.2 v k).1 hk;cases this
theorem cont_nil:eZ [] (fun _=>none):=⟨.nil,fun v k=>by constructor<;>intro h<;>cases h⟩
end Go.Ab

end
section
namespace Go.Ab
def FAR:Nat:=72057594037927936
def cL:Nat:=2147483647
theorem iP:FAR=72057594037927936:=rfl
theorem jM:cL=2147483647:=rfl
inductive Wk(B:List Arc)(s:Nat):Nat->Nat->Prop where
 |nil:Wk B s s 0
 |snoc {w:Nat} {a:Arc}:a∈B->Wk B s a.s w->Wk B s a.t (w+a.w)
theorem Wk.snoc'{B:List Arc}{s u v w x:Nat}(h:Wk B s u w){a:Arc}(ha:a∈B)(hs:a.s=u)(ht:a.t=v)(hx:x=w+a.w):Wk B s v x:=by
 subst hs ht hx;exact .snoc ha h
def IsD(B:List Arc)(s v x:Nat):Prop:=(x<FAR/\Wk B s v x/\ ∀w,Wk B s v w->x<=w)\/(x=FAR/\ ∀w,¬Wk B s v w)
theorem IsD.uniq{B:List Arc}{s v x y:Nat}(h:IsD B s v x)(k:IsD B s v y):x=y:=by
 rcases h with⟨a,b,c⟩|⟨a,b⟩<;>rcases k with⟨d,e,f⟩|⟨d,e⟩
 . have:=c _ e;have:=f _ b;omega
 . exact absurd b (e _)
 . exact absurd e (b _)
 . omega
theorem IsD.le{B:List Arc}{s v x:Nat}(h:IsD B s v x):x<=FAR:=by
 rcases h with⟨a,_,_⟩|⟨a,_⟩<;>omega
theorem IsD.arc{B:List Arc}{s x y:Nat}{a:Arc}(ha:a∈B)(hx:IsD B s a.s x)(hy:IsD B s a.t y):y<=x+a.w:=by
 rcases hx with⟨a1,b1,c1⟩|⟨a1,b1⟩
 . rcases hy with⟨a2,b2,c2⟩|⟨a2,b2⟩
   . exact c2 _ (.snoc ha b1)
   . exact absurd (.snoc ha b1) (b2 _)
 . have:=hy.le;omega
theorem nj: ∀(N:Nat) (l:List Nat),l.Nodup->(∀x∈l,x<N)->l.length<=N
 | 0,l,_,h=>by
   cases l with
   |nil=>simp
   |cons x l=>have:=h x (by simp);omega
 | N+1,l,hn,h=>by
   have h1:=nj N (l.erase N) (hn.erase N) (fun x hx=>by
    have h2:=h x (List.mem_of_mem_erase hx)
    have h3:x≠N:=fun e=>by subst e;exact(List.Nodup.not_mem_erase hn) hx
    omega)
   have h2:=List.length_erase (a:=N) (l:=l)
   split at h2<;>omega

section
variable{B:List Arc}{s N:Nat}{O:List Nat}{D:Nat->Nat}{K:Nat->Option Int}{ex:Arc->Prop}
structure Dj(B:List Arc)(s N:Nat)(O:List Nat)(D:Nat->Nat)(K:Nat->Option Int)(ex:Arc->Prop):Prop where
 i1: ∀v,v∈O->K v=none
 i2: ∀v∈O,Wk B s v (D v)/\(∀w,Wk B s v w->D v<=w)/\D v<=O.length*cL
 i2f: ∀v,v∉O->D v=FAR
 i3: ∀v k,K v=some k->v<N/\ ∃n:Nat,k=n/\Wk B s v n/\n<=O.length*cL
 i4: ∀a∈B,a.s∈O-> ¬ex a->a.t∈O\/ ∃k:Int,K a.t=some k/\k<=D a.s+a.w
 i5:s∈O\/K s=some 0
 nd:O.Nodup
 lt: ∀v∈O,v<N
theorem Dj.len(d:Dj B s N O D K ex):O.length<=N:=nj N O d.nd d.lt
theorem dj_init(hs:s<N):Dj B s N [] (fun _=>FAR) (bV (fun _=>none) s (some 0)) (fun _=>False):=by
 refine⟨fun v h=>(by cases h),fun v h=>(by cases h),fun v _=>rfl,fun v k h=>?_,fun a _ h=>(by cases h),.inr (by simp [bV]),.nil,fun v h=>(by cases h)⟩
 unfold bV at h
 split at h
 . rename_i e;cases h;subst e;exact⟨hs,0,rfl,.nil,by simp⟩
 . cases h
theorem Dj.front(d:Dj B s N O D K (fun _=>False)){x w:Nat}(h:Wk B s x w):x∈O\/ ∃y k,K y=some k/\k<=(w:Int):=by
 induction h with
 |nil=>exact d.i5.imp (fun h=>h) (fun h=>⟨_,_,h,by omega⟩)
 | @snoc w a ha hw ih=>
   rcases ih with ih|⟨y,k,h1,h2⟩
   . rcases d.i4 a ha ih (fun h=>h)with h|⟨k,h1,h2⟩
     . exact .inl h
     . have:=(d.i2 _ ih).2.1 _ hw
       exact .inr ⟨_,k,h1,by omega⟩
   . exact .inr ⟨y,k,h1,by omega⟩
theorem Dj.pop(d:Dj B s N O D K (fun _=>False)){v:Nat}{n:Nat}(hv:K v=some (n:Int))(hm: ∀u k,K u=some k->(n:Int)<=k):
 Dj B s N (O++[v]) (fun u=>if u=v then n else D u) (bV K v none) (fun a=>a.s=v)/\v∉O/\v<N/\n<=O.length*cL:=by
 have hvO:v∉O:=fun h=>by have:=d.i1 v h;rw [hv]at this;cases this
 obtain⟨hvN,n',e,hw,hb⟩:=d.i3 v _ hv
 have e:n=n':=by omega
 subst e
 have hl:(O++[v]).length*cL=O.length*cL+cL:=by rw [xj,yq,Nat.succ_mul]
 refine⟨⟨fun u hu=>?_,fun u hu=>?_,fun u hu=>?_,fun u k hu=>?_,fun a ha hs hx=>?_,?_,?_,fun u hu=>?_⟩,hvO,hvN,hb⟩
 . unfold bV
   by_cases e:u=v
   . rw [if_pos e]
   . rw [if_neg e];simp [e]at hu;exact d.i1 u hu
 . rw [hl]
   by_cases e:u=v
   . subst e
     simp only [if_true]
     refine⟨hw,fun w h=>?_,by omega⟩
     rcases d.front h with h1|⟨y,k,h1,h2⟩
     . exact absurd h1 hvO
     . have:=hm y k h1;omega
   . simp only [e,if_false]
     simp [e]at hu
     obtain⟨a,b,c⟩:=d.i2 u hu
     exact⟨a,b,by omega⟩
 . simp at hu
   simp only [hu.2,if_false]
   exact d.i2f u hu.1
 . unfold bV at hu
   split at hu
   . cases hu
   . obtain⟨a,m,b,c,e⟩:=d.i3 u k hu
     exact⟨a,m,b,c,by rw [hl];omega⟩
 . simp [hx]at hs
   have hx': ¬a.s=v:=hx
   simp only [hx',if_false]
   rcases d.i4 a ha hs (fun h=>h)with h|⟨k,h1,h2⟩
   . exact .inl (by simp [h])
   . by_cases e:a.t=v
     . exact .inl (by simp [e])
     . exact .inr ⟨k,by unfold bV;rw [if_neg e];exact h1,h2⟩
 . rcases d.i5 with h|h
   . exact .inl (by simp [h])
   . by_cases e:s=v
     . exact .inl (by simp [e])
     . exact .inr (by unfold bV;rw [if_neg e];exact h)
 . rw [xf]
   exact⟨d.nd,by simp,fun a ha b hb e=>hvO (by simp at hb;subst hb;subst e;exact ha)⟩
 . rcases List.mem_append.1 hu with h|h
   . exact d.lt u h
   . simp at h;subst h;exact hvN
def fZ(O:List Nat)(K:Nat->Option Int)(u:Nat)(x:Int):Nat->Option Int:=if u∈O then K else match K u with
 |some k=>if k<=x then K else bV K u (some x)
 |none=>bV K u (some x)
theorem Dj.relaxed (d:Dj B s N O D K ex) {ex':Arc->Prop} {a:Arc} (ha:a∈B) (hs:a.s∈O) (hN:a.t<N) (hb:D a.s+a.w<=O.length*cL) (hx: ∀b∈B,¬ex' b-> ¬ex b\/b=a):
 Dj B s N O D (fZ O K a.t ((D a.s+a.w:Nat):Int)) ex':=by
 have main: ∀K',(∀v,v∈O->K' v=K v)->(∀v k,K' v=some k->K v=some k\/(v=a.t/\k=((D a.s+a.w:Nat):Int)))->(∀v k,K v=some k-> ∃k',K' v=some k'/\k'<=k)->(a.t∈O\/ ∃k:Int,K' a.t=some k/\k<=D a.s+a.w)->Dj B s N O D K' ex':=by
  intro K' c1 c2 c3 c4
  refine⟨fun v hv=>by rw [c1 v hv];exact d.i1 v hv,d.i2,d.i2f,fun v k hk=>?_,fun b hb hbs hbx=>?_,?_,d.nd,d.lt⟩
  . rcases c2 v k hk with h|⟨rfl,rfl⟩
    . exact d.i3 v k h
    . exact⟨hN,_,rfl,.snoc ha (d.i2 _ hs).1,hb⟩
  . rcases hx b hb hbx with h|rfl
    . rcases d.i4 b hb hbs h with h|⟨k,h1,h2⟩
      . exact .inl h
      . obtain⟨k',h3,h4⟩:=c3 _ _ h1
        exact .inr ⟨k',h3,by omega⟩
    . exact c4
  . rcases d.i5 with h|h
    . exact .inl h
    . obtain⟨k',h3,h4⟩:=c3 _ _ h
      rcases c2 _ _ h3 with h5|⟨h5,h6⟩
      . rw [h]at h5;exact .inr (by rw [h3,h5])
      . exact .inr (by rw [h3];congr 1;omega)
 unfold fZ
 by_cases h:a.t∈O
 . rw [if_pos h];exact main K (fun _ _=>rfl) (fun _ _ h=>.inl h) (fun v k h=>⟨k,h,by omega⟩) (.inl h)
 . rw [if_neg h]
   have upd:(∀k,K a.t=some k->((D a.s+a.w:Nat):Int)<=k)->Dj B s N O D (bV K a.t (some ((D a.s+a.w:Nat):Int))) ex':=fun hk=>by
    refine main _ (fun v hv=>?_) (fun v k hv=>?_) (fun v k hv=>?_) (.inr ⟨((D a.s+a.w:Nat):Int),by unfold bV;rw [if_pos rfl],by omega⟩)
    . unfold bV;rw [if_neg (fun e=>h (by subst e;exact hv))]
    . unfold bV at hv
      split at hv
      . rename_i e;cases hv;exact .inr ⟨e,rfl⟩
      . exact .inl hv
    . unfold bV
      by_cases e:v=a.t
      . rw [if_pos e];subst e;exact⟨_,rfl,hk k hv⟩
      . rw [if_neg e];exact⟨k,hv,by omega⟩
   cases hk:K a.t with
   |none=>simp only [];exact upd (fun k e=>by rw [hk]at e;cases e)
   | some k=>
     simp only []
     split
     . rename_i hle
       exact main K (fun _ _=>rfl) (fun _ _ h=>.inl h) (fun v k h=>⟨k,h,by omega⟩) (.inr ⟨k,hk,by omega⟩)
     . rename_i hle
       exact upd (fun k' e=>by rw [hk]at e;cases e;omega)
theorem Dj.done(d:Dj B s N O D K (fun _=>False))(hK: ∀v,K v=none)(hN:N<=12)(v:Nat):IsD B s v (D v):=by
 have hl:=Nat.mul_le_mul_right cL (xw d.len hN)
 have:=iP
 have:=jM
 by_cases h:v∈O
 . obtain⟨a,b,c⟩:=d.i2 v h
   exact .inl ⟨by omega,a,b⟩
 . refine .inr ⟨d.i2f v h,fun w hw=>?_⟩
   rcases d.front hw with h1|⟨y,k,h1,_⟩
   . exact h h1
   . rw [hK]at h1;cases h1
end
theorem eY{A:List Arc}{f:Arc->Nat}{j v i:Nat}:i∈outs A f j v↔i<j/\f (A.getD i default)=v:=by
 unfold outs
 rw [List.mem_filter,List.mem_range,decide_eq_true_eq]
def cK(a:Arc):Arc:=⟨a.t,a.s,a.w⟩

structure Ls(B:List Arc)(s N:Nat)(l:Nat->Nat):Prop where
 le: ∀v,l v<=FAR
 wk: ∀v,l v=FAR\/Wk B s v (l v)
 s0:l s=0
def ck(l:Nat->Nat)(v x:Nat):Nat->Nat:=fun u=>if u=v then x else l u
theorem Ls.step{B:List Arc}{s N:Nat}{l:Nat->Nat}(h:Ls B s N l){a:Arc}(ha:a∈B)(h1:l a.s<FAR)(h2:l a.s+a.w<l a.t):Ls B s N (ck l a.t (l a.s+a.w)):=by
 have hw:=(h.wk a.s).resolve_left (by omega)
 refine⟨fun v=>?_,fun v=>?_,?_⟩
 . unfold ck;split
   . have:=h.le a.t;omega
   . exact h.le v
 . unfold ck;split
   . rename_i e;subst e;exact .inr (.snoc ha hw)
   . exact h.wk v
 . unfold ck;split
   . rename_i e;rw [<-e,h.s0]at h2;omega
   . exact h.s0
end Go.Ab

end
section
namespace Go.Ab
def EM(l:List (Int×Value×Nat)):List (Value×Value×Nat):=l.map fun p=>(.int .i64 p.1,p.2.1,p.2.2)
def dG(f:Int->Option Value)(x:Int)(v:Option Value):Int->Option Value:=fun y=>if y=x then v else f y
def dh(es:List (Value×Value×Nat))(c:Nat)(f:Int->Option Value):Prop:=
 ∃l,es=EM l/\(l.map xk).Nodup/\(l.map fun p=>p.2.2).Nodup/\(∀p∈l,p.2.2<c)/\ ∀x v,f x=some v↔ ∃n,(x,v,n)∈l
theorem nL{x y:Int}:bN (.int .i64 x) (.int .i64 y)=some (decide (x=y)):=by
 show some (fH x y)=_
 congr 1
 rw [jI]
theorem uf{l:List (Int×Value×Nat)}(hn:(l.map xk).Nodup){x:Int}{v:Value}{n:Nat}(h:(x,v,n)∈l):bD (.int .i64 x) (EM l)=some (some (v,n)):=by
 induction l with
 |nil=>cases h
 | cons p l ih=>
   obtain⟨y,w,m⟩:=p
   show(match bN (.int .i64 x) (.int .i64 y)with|none=>none|some true=>some (some (w,m))|some false=>bD (.int .i64 x) (EM l))=_
   rw [nL]
   rw [xo,xG]at hn
   by_cases e:x=y
   . subst e
     rw [decide_eq_true rfl]
     simp only []
     rcases List.mem_cons.1 h with h|h
     . cases h;rfl
     . exact absurd (xh (f:=xk) h) hn.1
   . rw [decide_eq_false e]
     simp only []
     rcases List.mem_cons.1 h with h|h
     . cases h;exact absurd rfl e
     . exact ih hn.2 h
theorem find_miss{l:List (Int×Value×Nat)}{x:Int}(h:x∉l.map xk):bD (.int .i64 x) (EM l)=some none:=by
 induction l with
 |nil=>rfl
 | cons p l ih=>
   obtain⟨y,w,m⟩:=p
   show(match bN (.int .i64 x) (.int .i64 y)with|none=>none|some true=>some (some (w,m))|some false=>bD (.int .i64 x) (EM l))=_
   rw [nL]
   simp only [xo,xF,not_or]at h
   rw [decide_eq_false h.1]
   exact ih h.2
theorem oh{l:List (Int×Value×Nat)}(hn:(l.map xk).Nodup){x:Int}{v:Value}{n:Nat}(h:(x,v,n)∈l):
 ∃a b,l=a++(x,v,n)::b/\(∀w,jc (.int .i64 x) w (EM l)=EM (a++(x,w,n)::b))/\iu (.int .i64 x) (EM l)=EM (a++b):=by
 induction l with
 |nil=>cases h
 | cons p l ih=>
   obtain⟨y,w,m⟩:=p
   rw [xo,xG]at hn
   by_cases e:x=y
   . subst e
     rcases List.mem_cons.1 h with h|h
     . cases h
       refine⟨[],l,rfl,fun u=>?_,?_⟩
       . show(match bN (.int .i64 x) (.int .i64 x)with|some true=>_|_=>_)=_
         rw [nL,decide_eq_true rfl];rfl
       . show(match bN (.int .i64 x) (.int .i64 x)with|some true=>_|_=>_)=_
         rw [nL,decide_eq_true rfl];rfl
     . exact absurd (xh (f:=xk) h) hn.1
   . rcases List.mem_cons.1 h with h|h
     . cases h;exact absurd rfl e
     . obtain⟨a,b,h1,h2,h3⟩:=ih hn.2 h
       refine⟨(y,w,m)::a,b,by rw [h1];rfl,fun u=>?_,?_⟩
       . show(match bN (.int .i64 x) (.int .i64 y)with|some true=>_|_=>(Value.int .i64 y,w,m)::jc (.int .i64 x) u (EM l))=_
         rw [nL,decide_eq_false e,h2];rfl
       . show(match bN (.int .i64 x) (.int .i64 y)with|some true=>_|_=>(Value.int .i64 y,w,m)::iu (.int .i64 x) (EM l))=_
         rw [nL,decide_eq_false e,h3];rfl
theorem pD{a b:List (Int×Value×Nat)}{x:Int}{v w:Value}{n:Nat}(hn:((a++(x,v,n)::b).map fun p=>p.2.2).Nodup):fC n w (EM (a++(x,v,n)::b))=some (EM (a++(x,w,n)::b)):=by
 induction a with
 | nil=>
   show(bif xS n n then _ else _)=_
   rw [ya];rfl
 | cons p a ih=>
   obtain⟨y,u,m⟩:=p
   rw [List.cons_append,xo,xG]at hn
   have:xS m n=false:=by
    cases hb:xS m n with
    |false=>rfl
    | true=>
      have e:=yp hb
      exact absurd (List.mem_map.2 ⟨(x,v,n),by simp,e.symm⟩) hn.1
   show(bif xS m n then _ else match fC n w (EM (a++(x,v,n)::b))with|none=>none|some l'=>some ((Value.int .i64 y,u,m)::l'))=_
   rw [this,ih hn.2];rfl
theorem pu{a b:List (Int×Value×Nat)}{x:Int}{v:Value}{n:Nat}:(a++(x,v,n)::b).map xk=a.map xk++x::b.map xk:=by simp
section
variable{es:List (Value×Value×Nat)}{c:Nat}{f:Int->Option Value}{x:Int}
theorem uq:dh [] 0 (fun _=>none):=⟨[],rfl,.nil,.nil,fun _ h=>(by cases h),fun x v=>⟨fun h=>(by cases h),fun⟨_,h⟩=>(by cases h)⟩⟩
theorem dh.hit(h:dh es c f){v:Value}(hf:f x=some v): ∃n,bD (.int .i64 x) es=some (some (v,n)):=by
 obtain⟨l,rfl,h1,h2,h3,h4⟩:=h
 obtain⟨n,hn⟩:=(h4 x v).1 hf
 exact⟨n,uf h1 hn⟩
theorem dh.miss(h:dh es c f)(hf:f x=none):bD (.int .i64 x) es=some none:=by
 obtain⟨l,rfl,h1,h2,h3,h4⟩:=h
 refine find_miss fun hm=>?_
 obtain⟨⟨y,v,n⟩,hp,rfl⟩:=List.mem_map.1 hm
 have:=(h4 y v).2 ⟨n,hp⟩
 rw [hf]at this;cases this
theorem pU{a b:List (Int×Value×Nat)}{v w:Value}{n:Nat}(h1:((a++(x,v,n)::b).map xk).Nodup)(h2:((a++(x,v,n)::b).map fun p=>p.2.2).Nodup)(h3: ∀p∈a++(x,v,n)::b,p.2.2<c)
 (h4: ∀x' v',f x'=some v'↔ ∃n',(x',v',n')∈a++(x,v,n)::b):dh (EM (a++(x,w,n)::b)) c (dG f x (some w)):=by
 have k1:=h1
 rw [pu,xf]at k1
 refine⟨_,rfl,by rw [pu];rwa [pu]at h1,by rw [xn,xo]at h2⊢;exact h2,fun p hp=>?_,fun y u=>?_⟩
 . rcases List.mem_append.1 hp with hp|hp
   . exact h3 p (by simp [hp])
   . rcases List.mem_cons.1 hp with rfl|hp
     . exact h3 (x,v,n) (by simp)
     . exact h3 p (by simp [hp])
 . unfold dG
   by_cases e:y=x
   . subst e
     rw [if_pos rfl]
     constructor
     . intro e;cases e;exact⟨n,by simp⟩
     . rintro⟨m,hm⟩
       rcases List.mem_append.1 hm with hm|hm
       . exact absurd rfl (k1.2.2 y (xh (f:=xk) hm) y (by simp))
       . rcases List.mem_cons.1 hm with hm|hm
         . cases hm;rfl
         . exact absurd (xh (f:=xk) hm) (List.nodup_cons.1 k1.2.1).1
   . rw [if_neg e,h4]
     constructor<;>rintro⟨m,hm⟩<;>refine⟨m,?_⟩
     . rcases List.mem_append.1 hm with hm|hm
       . simp [hm]
       . rcases List.mem_cons.1 hm with hm|hm
         . cases hm;exact absurd rfl e
         . simp [hm]
     . rcases List.mem_append.1 hm with hm|hm
       . simp [hm]
       . rcases List.mem_cons.1 hm with hm|hm
         . cases hm;exact absurd rfl e
         . simp [hm]
theorem qa{l:List (Int×Value×Nat)}{w:Value}(h1:(l.map xk).Nodup)(h2:(l.map fun p=>p.2.2).Nodup)(h3: ∀p∈l,p.2.2<c)(h4: ∀x' v',f x'=some v'↔ ∃n',(x',v',n')∈l)(hf:f x=none):
 dh (EM (l++[(x,w,c)])) (c+1) (dG f x (some w)):=by
 have hx:x∉l.map xk:=fun hm=>by
  obtain⟨⟨y,v,n⟩,hp,rfl⟩:=List.mem_map.1 hm
  have:=(h4 y v).2 ⟨n,hp⟩
  rw [hf]at this;cases this
 refine⟨_,rfl,?_,?_,fun p hp=>?_,fun y u=>?_⟩
 . rw [xn,xf]
   exact⟨h1,by simp,fun a ha b hb e=>hx (by simp at hb;subst hb;subst e;exact ha)⟩
 . rw [xn,xf]
   refine⟨h2,by simp,fun a ha b hb e=>?_⟩
   simp at hb;subst hb
   obtain⟨p,hp,rfl⟩:=List.mem_map.1 ha
   have:=h3 p hp;omega
 . rcases List.mem_append.1 hp with hp|hp
   . have:=h3 p hp;omega
   . simp at hp;subst hp;exact Nat.lt_succ_self c
 . unfold dG
   by_cases e:y=x
   . subst e
     rw [if_pos rfl]
     constructor
     . intro e;cases e;exact⟨c,by simp⟩
     . rintro⟨m,hm⟩
       rcases List.mem_append.1 hm with hm|hm
       . exact absurd (xh (f:=xk) hm) hx
       . simp at hm;rw [hm.1]
   . rw [if_neg e,h4]
     constructor<;>rintro⟨m,hm⟩<;>refine⟨m,?_⟩
     . simp [hm]
     . rcases List.mem_append.1 hm with hm|hm
       . exact hm
       . simp at hm;exact absurd hm.1 e
theorem em_app(l:List (Int×Value×Nat))(v:Value)(n:Nat):EM l++[(.int .i64 x,v,n)]=EM (l++[(x,v,n)]):=by unfold EM;rw [xn];rfl
theorem dh.put(h:dh es c f)(v:Value): ∃es' c',(match bD (.int .i64 x) es with|none=>none|some (some _)=>some (jc (.int .i64 x) v es,c)|some none=>some (es++[(.int .i64 x,v,c)],c+1))=some (es',c')/\dh es' c' (dG f x (some v)):=by
 cases hf:f x with
 | none=>
   rw [h.miss hf]
   obtain⟨l,rfl,h1,h2,h3,h4⟩:=h
   exact⟨_,_,rfl,by rw [em_app];exact qa h1 h2 h3 h4 hf⟩
 | some w=>
   obtain⟨n,e⟩:=h.hit hf
   rw [e]
   obtain⟨l,rfl,h1,h2,h3,h4⟩:=h
   obtain⟨m,hm⟩:=(h4 x w).1 hf
   obtain⟨a,b,rfl,k1,_⟩:=oh h1 hm
   exact⟨_,_,rfl,by rw [k1];exact pU h1 h2 h3 h4⟩
theorem del_miss{l:List (Int×Value×Nat)}(h:x∉l.map xk):iu (.int .i64 x) (EM l)=EM l:=by
 induction l with
 |nil=>rfl
 | cons p l ih=>
   obtain⟨y,w,m⟩:=p
   simp only [xo,xF,not_or]at h
   show(match bN (.int .i64 x) (.int .i64 y)with|some true=>_|_=>(Value.int .i64 y,w,m)::iu (.int .i64 x) (EM l))=_
   rw [nL,decide_eq_false h.1,ih h.2];rfl
theorem dh.del(h:dh es c f):dh (iu (.int .i64 x) es) c (dG f x none):=by
 obtain⟨l,rfl,h1,h2,h3,h4⟩:=h
 cases hf:f x with
 | none=>
   have hx:x∉l.map xk:=fun hm=>by
    obtain⟨⟨y,v,n⟩,hp,rfl⟩:=List.mem_map.1 hm
    have:=(h4 y v).2 ⟨n,hp⟩
    rw [hf]at this;cases this
   rw [del_miss hx]
   refine⟨l,rfl,h1,h2,h3,fun y u=>?_⟩
   unfold dG
   by_cases e:y=x
   . subst e;rw [if_pos rfl];exact⟨fun h=>(by cases h),fun⟨n,hn⟩=>absurd (xh (f:=xk) hn) hx⟩
   . rw [if_neg e];exact h4 y u
 | some w=>
   obtain⟨m,hm⟩:=(h4 x w).1 hf
   obtain⟨a,b,rfl,_,k2⟩:=oh h1 hm
   rw [k2]
   have k1:=h1
   rw [pu,xf]at k1
   obtain⟨p1,p2,p3⟩:=k1
   rw [xG]at p2
   refine⟨a++b,rfl,?_,?_,fun p hp=>h3 p ?_,fun y u=>?_⟩
   . rw [xn,xf]
     exact⟨p1,p2.2,fun u hu v hv=>p3 u hu v (by simp [hv])⟩
   . rw [xn,xo,xf]at h2
     rw [xn,xf]
     exact⟨h2.1,(List.nodup_cons.1 h2.2.1).2,fun u hu v hv=>h2.2.2 u hu v (List.mem_cons_of_mem _ hv)⟩
   . rcases List.mem_append.1 hp with hp|hp<;>simp [hp]
   . unfold dG
     by_cases e:y=x
     . subst e
       rw [if_pos rfl]
       refine⟨fun h=>(by cases h),fun⟨n,hn⟩=>?_⟩
       rcases List.mem_append.1 hn with hn|hn
       . exact absurd rfl (p3 y (xh (f:=xk) hn) y (by simp))
       . exact absurd (xh (f:=xk) hn) p2.1
     . rw [if_neg e,h4]
       constructor<;>rintro⟨m,hm⟩<;>refine⟨m,?_⟩
       . rcases List.mem_append.1 hm with hm|hm
         . simp [hm]
         . rcases List.mem_cons.1 hm with hm|hm
           . cases hm;exact absurd rfl e
           . simp [hm]
       . rcases List.mem_append.1 hm with hm|hm<;>simp [hm]
theorem dh.ent(h:dh es c f)(z:Value): ∃es1 c1 n,(match bD (.int .i64 x) es with|none=>none|some (some (v,n))=>some (jc (.int .i64 x) v es,c,v,n)|some none=>some (es++[(.int .i64 x,z,c)],c+1,z,c))=some (es1,c1,(f x).getD z,n)/\dh es1 c1 (dG f x (some ((f x).getD z)))/\
 ∀w,∃es2,fC n w es1=some es2/\dh es2 c1 (dG f x (some w)):=by
 cases hf:f x with
 | none=>
   rw [h.miss hf]
   obtain⟨l,rfl,h1,h2,h3,h4⟩:=h
   have k:=qa (w:=z) h1 h2 h3 h4 hf
   refine⟨_,_,_,rfl,by rw [em_app];exact k,fun w=>?_⟩
   rw [em_app]
   obtain⟨l',e,q1,q2,q3,q4⟩:=k
   have hn:((l++(x,z,c)::[]).map fun p=>p.2.2).Nodup:=by
    rw [xn,xf]
    refine⟨h2,by simp,fun a ha b hb e=>?_⟩
    simp at hb;subst hb
    obtain⟨p,hp,rfl⟩:=List.mem_map.1 ha
    have:=h3 p hp;omega
   exact⟨_,pD hn,qa h1 h2 h3 h4 hf⟩
 | some v=>
   obtain⟨l,rfl,h1,h2,h3,h4⟩:=h
   obtain⟨m,hm⟩:=(h4 x v).1 hf
   rw [uf h1 hm]
   obtain⟨a,b,rfl,k1,_⟩:=oh h1 hm
   refine⟨_,_,_,rfl,by rw [k1];exact pU h1 h2 h3 h4,fun w=>?_⟩
   rw [k1]
   exact⟨_,pD (by simpa using h2),pU h1 h2 h3 h4⟩
end

section
variable{M:Nat->Prop}{h0 h:Hp}{L:List (Nat×Ob)}{G:List GL}{E:Env}{t kt el:TypeId}{b c:Nat}{es:List (Value×Value×Nat)}{f:Int->Option Value}{x:Int}
theorem og(hk:E.und kt=some (.int .i64)):aN E kt (.int .i64 x)=true:=by simp only [aN,hk];rfl
theorem nI(hu:E.und t=some (.map kt el))(hk:E.und kt=some (.int .i64)){z:Value}(hz:E.zeroV el=some z)(hg:h.get b=some (.map es c))(m:dh es c f):
 cS E h t (.map (some b)) (.int .i64 x) true=some (.tuple #[(f x).getD z,.bool (f x).isSome]):=by
 simp only [cS,hu,og hk,cond_true,hg]
 cases hf:f x with
 |none=>rw [m.miss hf];simp [hz]
 |some v=>obtain⟨n,e⟩:=m.hit hf;rw [e];simp
theorem lookI_v(hu:E.und t=some (.map kt el))(hk:E.und kt=some (.int .i64)){z:Value}(hz:E.zeroV el=some z)(hg:h.get b=some (.map es c))(m:dh es c f):
 cS E h t (.map (some b)) (.int .i64 x) false=some ((f x).getD z):=by
 simp only [cS,hu,og hk,cond_true,hg]
 cases hf:f x with
 |none=>rw [m.miss hf];simp [hz]
 |some v=>obtain⟨n,e⟩:=m.hit hf;rw [e];simp
theorem lg{x:Blk}{es':List (Value×Value×Nat)}{c':Nat}(hg:h.get b=some x):(h.put b (.map es' c')).get b=some (.map es' c'):=by rw [Hp.get_put,if_pos ⟨rfl,by rw [hg];rfl⟩]
theorem St.mputI(S:St M h0 h L G){i:Nat}(hi:L[i]? =some (b,.map es c))(hu:E.und t=some (.map kt el))(hk:E.und kt=some (.int .i64))(m:dh es c f)(v:Value):
 ∃h',fQ E h t (.map (some b)) (.int .i64 x) v=some h'/\Mo (· =b) h h'/\ ∃es' c',dh es' c' (dG f x (some v))/\St M h0 h' (L.set i (b,.map es' c')) G:=by
 have hg:h.get b=some (.map es c):=(S.own _ (xp hi)).2
 obtain⟨es',c',h1,h2⟩:=m.put (x:=x) v
 refine⟨h.put b (.map es' c'),?_,(Mo.refl (M:=(· =b)) S.ok).put (.inr rfl) _,es',c',h2,S.put hi (o':=.map es' c') (lg hg)⟩
 simp only [fQ,ik,hu,og hk,cond_true,hg]
 revert h1
 cases bD (.int .i64 x) es with
 |none=>intro h1;cases h1
 | some r=>cases r with
   |none=>intro h1;cases h1;rfl
   |some _=>intro h1;cases h1;rfl
theorem St.mdelI(S:St M h0 h L G){i:Nat}(hi:L[i]? =some (b,.map es c))(hu:E.und t=some (.map kt el))(hk:E.und kt=some (.int .i64))(m:dh es c f):
 ∃h',jB E h t (.map (some b)) (.int .i64 x)=some h'/\Mo (· =b) h h'/\ ∃es' c',dh es' c' (dG f x none)/\St M h0 h' (L.set i (b,.map es' c')) G:=by
 have hg:h.get b=some (.map es c):=(S.own _ (xp hi)).2
 refine⟨h.put b (.map (iu (.int .i64 x) es) c),?_,(Mo.refl (M:=(· =b)) S.ok).put (.inr rfl) _,_,c,m.del (x:=x),S.put hi (o':=.map _ c) (lg hg)⟩
 simp only [jB,ik,hu,og hk,cond_true,hg]
 cases hf:f x with
 |none=>rw [m.miss hf]
 |some v=>obtain⟨n,e⟩:=m.hit hf;rw [e]
theorem St.mentI(S:St M h0 h L G){i:Nat}(hi:L[i]? =some (b,.map es c))(hu:E.und t=some (.map kt el))(hk:E.und kt=some (.int .i64)){z:Value}(hz:E.zeroV el=some z)(m:dh es c f):
 ∃ h' n,gL E h t (.map (some b)) (.int .i64 x)=some (h',.tuple #[(f x).getD z,.int .i64 (yA n)])/\Mo (· =b) h h'/\ ∃es' c',dh es' c' (dG f x (some ((f x).getD z)))/\St M h0 h' (L.set i (b,.map es' c')) G/\
   ∀w,∃es2,fC n w es'=some es2/\dh es2 c' (dG f x (some w)):=by
 have hg:h.get b=some (.map es c):=(S.own _ (xp hi)).2
 obtain⟨es',c',n,h1,h2,h3⟩:=m.ent (x:=x) z
 refine⟨h.put b (.map es' c'),n,?_,(Mo.refl (M:=(· =b)) S.ok).put (.inr rfl) _,es',c',h2,S.put hi (o':=.map es' c') (lg hg),h3⟩
 simp only [gL,ik,hu,og hk,cond_true,hg,hz]
 revert h1
 cases bD (.int .i64 x) es with
 |none=>intro h1;cases h1
 | some r=>cases r with
   |none=>intro h1;simp only [Option.some.injEq,Prod.mk.injEq]at h1;obtain⟨a,b,c,d⟩:=h1;subst a b d;rw [<-c]
   |some q=>obtain⟨q1,q2⟩:=q;intro h1;simp only [Option.some.injEq,Prod.mk.injEq]at h1;obtain⟨a,b,c,d⟩:=h1;subst a b d;rw [<-c]
theorem St.mstoreI(S:St M h0 h L G){i n:Nat}(hi:L[i]? =some (b,.map es c)){w:Value}{es2:List (Value×Value×Nat)}(hs:fC n w es=some es2):
 ∃h',ji h (.map (some b)) (.int .i64 (yA n)) w=some h'/\Mo (· =b) h h'/\St M h0 h' (L.set i (b,.map es2 c)) G:=by
 have hg:h.get b=some (.map es c):=(S.own _ (xp hi)).2
 refine⟨h.put b (.map es2 c),?_,(Mo.refl (M:=(· =b)) S.ok).put (.inr rfl) _,S.put hi (o':=.map es2 c) (lg hg)⟩
 simp only [ji,hg,fg,hs]
end
end Go.Ab

end
section
namespace Go.Ab
def iN(x:Hd):List Value:=[.int .i64 x.id,.int .i64 x.key]
theorem iz(x:Hd):(iN x).length=2:=rfl
structure c7(cs:List Value)(cap:Nat)(l:List Hd):Prop where
 len:cs.length=cap*2
 le:l.length<=cap
 at0: ∀i,i<l.length->cs[i*2]? =some (.int .i64 (l.getD i default).id)/\cs[i*2+1]? =some (.int .i64 (l.getD i default).key)
def ip(f:Int->Option Value)(l:List Hd):Prop:=(∀i,i<l.length->f (l.getD i default).id=some (.int .i64 i))/\ ∀x v,f x=some v-> ∃i,i<l.length/\x=(l.getD i default).id
section
variable{h:Hp}{bl cap i:Nat}{cs:List Value}{l:List Hd}{md:Nat}
theorem c7.ld0(c:c7 cs cap l)(r:Row h bl cs md)(hi:i<l.length):h.load bl (i*2) 1=some [.int .i64 (l.getD i default).id]:=r.load1 (c.at0 i hi).1
theorem c7.ld1(c:c7 cs cap l)(r:Row h bl cs md)(hi:i<l.length):h.load bl (i*2+1) 1=some [.int .i64 (l.getD i default).key]:=r.load1 (c.at0 i hi).2
theorem c7.ld2(c:c7 cs cap l)(r:Row h bl cs md)(hi:i<l.length):h.load bl (i*2) 2=some [.int .i64 (l.getD i default).id,.int .i64 (l.getD i default).key]:=by
 have h0:=(c.at0 i hi).1
 have h1:=(c.at0 i hi).2
 have l1:=(List.getElem?_eq_some_iff.1 h1).1
 rw [r.load (by omega)]
 congr 1
 rw [xO (by omega),xO (by omega)]
 simp only [xN,yd]
 rw [(List.getElem?_eq_some_iff.1 h0).2,(List.getElem?_eq_some_iff.1 h1).2]
theorem pM{x y:Value}(hi:i*2+2<=cs.length)(j:Nat):(lay cs (i*2) [x,y])[j]? =if j=i*2 then some x else if j=i*2+1 then some y else cs[j]? :=by
 rw [gT (by simpa using hi)]
 simp only [xW,yb]
 by_cases h1:j=i*2
 . subst h1;simp
 . by_cases h2:j=i*2+1
   . subst h2;simp
   . rw [if_neg h1,if_neg h2,if_neg (by omega)]
theorem c7.set(c:c7 cs cap l)(hi:i<l.length)(x:Hd):c7 (lay cs (i*2) [.int .i64 x.id,.int .i64 x.key]) cap (l.set i x):=by
 have hl:=c.len
 have hle:=c.le
 have hb:i*2+2<=cs.length:=by omega
 refine⟨by rw [lc (by simpa using hb)];exact hl,by rw [xg];exact hle,fun j hj=>?_⟩
 rw [xg]at hj
 rw [pM hb,pM hb,im]
 by_cases e:i=j
 . subst e;simp [hi]
 . rw [if_neg (by omega),if_neg (by omega),if_neg (by omega),if_neg (by omega),if_neg (by omega)]
   exact c.at0 j hj
theorem c7.setKey(c:c7 cs cap l)(hi:i<l.length)(k:Int):c7 (lay cs (i*2+1) [.int .i64 k]) cap (l.set i ⟨(l.getD i default).id,k⟩):=by
 have hl:=c.len
 have hle:=c.le
 have e:lay cs (i*2+1) [.int .i64 k]=lay cs (i*2) [.int .i64 (l.getD i default).id,.int .i64 k]:=by
  refine xH fun j=>?_
  rw [pM (by omega),gT (by simp;omega)]
  simp only [xW,yb]
  by_cases h1:j=i*2
  . subst h1;rw [if_neg (by omega),if_pos rfl];exact(c.at0 i hi).1
  . by_cases h2:j=i*2+1
    . subst h2;rw [if_pos (by omega)];simp
    . rw [if_neg (by omega),if_neg h1,if_neg h2]
 rw [e]
 exact c.set hi ⟨(l.getD i default).id,k⟩
end
theorem set_sw(l:List Hd)(i k:Nat):(l.set i (l.getD k default)).set k (l.getD i default)=sw l i k:=rfl
theorem ip.inj{f:Int->Option Value}{l:List Hd}(h:ip f l){i j:Nat}(hi:i<l.length)(hj:j<l.length)(e:(l.getD i default).id=(l.getD j default).id):i=j:=by
 have h1:=h.1 i hi
 have h2:=h.1 j hj
 rw [e,h2]at h1
 injection h1 with h1
 injection h1 with _ h1
 omega
theorem ip.swap{f:Int->Option Value}{l:List Hd}(h:ip f l){i k:Nat}(hi:i<l.length)(hk:k<l.length):
 ip (dG (dG f ((sw l i k).getD i default).id (some (.int .i64 i))) ((sw l i k).getD k default).id (some (.int .i64 k))) (sw l i k):=by
 have ei:=fM l hi hk i
 have ek:=fM l hi hk k
 rw [if_pos rfl]at ek
 refine⟨fun j hj=>?_,fun x v hx=>?_⟩
 . rw [eX]at hj
   have ej:=fM l hi hk j
   unfold dG
   by_cases e1:j=k
   . subst e1;rw [if_pos rfl]
   . rw [if_neg e1]at ej
     by_cases e2:j=i
     . subst e2
       rw [if_neg,if_pos rfl]
       rw [if_neg e1,if_pos rfl]at ei
       rw [ei,ek]
       intro e
       exact e1 (h.inj hk hi (by omega)).symm
     . rw [if_neg e2]at ej
       rw [if_neg,if_neg]
       . rw [ej];exact h.1 j hj
       . rw [ej,ei]
         intro e
         split at e
         . exact e2 (h.inj hj hi (by omega))
         . rename_i e3;rw [if_pos rfl]at e;exact e1 (h.inj hj hk (by omega))
       . rw [ej,ek]
         intro e
         exact e2 (h.inj hj hi (by omega))
 . unfold dG at hx
   by_cases e1:x=((sw l i k).getD k default).id
   . exact⟨k,by rw [eX];exact hk,e1⟩
   . rw [if_neg e1]at hx
     by_cases e2:x=((sw l i k).getD i default).id
     . exact⟨i,by rw [eX];exact hi,e2⟩
     . rw [if_neg e2]at hx
       obtain⟨j,hj,e⟩:=h.2 x v hx
       refine⟨j,by rw [eX];exact hj,?_⟩
       have ej:=fM l hi hk j
       by_cases e3:j=k
       . subst e3
         exfalso
         rw [e]at e2
         by_cases e4:i=j
         . subst e4;rw [if_pos rfl]at ei;exact e2 (by rw [ei])
         . rw [if_neg e4,if_pos rfl]at ei;exact e2 (by rw [ei])
       . by_cases e4:j=i
         . subst e4;exfalso;rw [ek]at e1;exact e1 e
         . rw [if_neg e3,if_neg e4]at ej;rw [ej];exact e
structure dP(h:Hp)(bh bl bm cap:Nat)(n:Int)(l:List Hd):Prop where
 row:Row h bh [.slice (some ⟨bl,0,some 2⟩) l.length cap,.map (some bm),.int .i64 n] 1
 ex: ∃cs es c f,Row h bl cs 1/\h.get bm=some (.map es c)/\c7 cs cap l/\dh es c f/\ip f l
 ne:bh≠bl/\bh≠bm/\bl≠bm
theorem dP.mo{M:Nat->Prop}{h h':Hp}{bh bl bm cap:Nat}{n:Int}{l:List Hd}(r:dP h bh bl bm cap n l)(g:Mo M h h')(h1: ¬M bh)(h2: ¬M bl)(h3: ¬M bm):dP h' bh bl bm cap n l:=by
 obtain⟨cs,es,c,f,a,b,d⟩:=r.ex
 exact⟨g.has (o:=.row _ 1) r.row h1,⟨cs,es,c,f,g.has (o:=.row _ 1) a h2,g.has (o:=.map es c) b h3,d⟩,r.ne⟩
theorem dP.mo1{M:Nat->Prop}{h h':Hp}{bh bl bm cap:Nat}{n:Int}{l:List Hd}(r:dP h bh bl bm cap n l)(g:Mo M h h')(hm: ∀c,c=bh\/c=bl\/c=bm-> ¬M c):dP h' bh bl bm cap n l:=
 r.mo g (hm _ (.inl rfl)) (hm _ (.inr (.inl rfl))) (hm _ (.inr (.inr rfl)))
theorem dP.lt{h:Hp}(ok:h.t.Sized h.n){bh bl bm cap:Nat}{n:Int}{l:List Hd}(r:dP h bh bl bm cap n l): ∀c,c=bh\/c=bl\/c=bm->c<h.n:=by
 obtain⟨cs,es,c,f,a,b,d⟩:=r.ex
 rintro c (rfl|rfl|rfl)
 . exact r.row.lt ok
 . exact a.lt ok
 . exact eJ ok b
theorem dP.gr{h h':Hp}{bh bl bm cap:Nat}{n:Int}{l:List Hd}(r:dP h bh bl bm cap n l)(g:Gr h h'):dP h' bh bl bm cap n l:=r.mo (M:=NoM) g.fr (fun h=>h) (fun h=>h) (fun h=>h)
theorem St.init2{M:Nat->Prop}{h:Hp}(ok:h.t.Sized h.n){b1 b2:Nat}{o1 o2:Ob}(h1:Has h b1 o1)(h2:Has h b2 o2)(hne:b1≠b2)(m1:M b1)(m2:M b2):St M h h [(b1,o1),(b2,o2)] []:=by
 refine⟨Mo.refl ok,fun p hp=>?_,fun _ h=>(by cases h),by simp [keys,hne]⟩
 simp only [xF,xY,or_false]at hp
 rcases hp with rfl|rfl
 . exact⟨.inr m1,h1⟩
 . exact⟨.inr m2,h2⟩
theorem St.init3{M:Nat->Prop}{h:Hp}(ok:h.t.Sized h.n){b1 b2 b3:Nat}{o1 o2 o3:Ob}(h1:Has h b1 o1)(h2:Has h b2 o2)(h3:Has h b3 o3)(n1:b1≠b2)(n2:b1≠b3)(n3:b2≠b3)(m1:M b1)(m2:M b2)(m3:M b3):St M h h [(b1,o1),(b2,o2),(b3,o3)] []:=by
 refine⟨Mo.refl ok,fun p hp=>?_,fun _ h=>(by cases h),by simp [keys,n1,n2,n3]⟩
 simp only [xF,xY,or_false]at hp
 rcases hp with rfl|rfl|rfl
 . exact⟨.inr m1,h1⟩
 . exact⟨.inr m2,h2⟩
 . exact⟨.inr m3,h3⟩
end Go.Ab

end
section
namespace Go.Ab
open Go.Proofs
set_option maxRecDepth 10000
open Tryz in
def Tryz.FFh1269:=aj a1<|aj s1<|aj z1<|aj n1<|aj u2<|aj a2<|aj s2<|aj z2<|aj i2<|aj u3<|aj a3<|aj s3<|aj z3<|aj i3<|aj u4<|aj a4<|aj s4<|aj z4<|aj n4<|aj u5<|aj a5<|aj s5<|aj z5<|aj i5<|aj u6<|aj a6<|aj s6<|aj z6<|aj i6<|aj a7<|aj s7<|aj z7<|aj i7<|aj n7<|aj p7<|aj ff7<|aj d7<|aj a8<|aj s8<|aj z8<|aj i8<|aj n8<|aj p8<|aj ff8<|aj d8<|aj u38<|aj a38<|aj s38<|aj z38<|aj q38<|n38
open Tryz in
def Tryz.FFh1254:=aj a1<|aj s1<|aj z1<|aj n1<|aj u2<|aj a2<|aj s2<|aj z2<|aj i2<|aj u3<|aj a3<|aj s3<|aj z3<|aj i3<|aj u4<|aj a4<|aj s4<|aj z4<|aj n4<|aj u38<|aj a38<|aj s38<|aj z38<|aj q38<|aj n38<|aj u242<|aj a242<|aj s242<|aj z242<|aj n242<|aj u264<|aj a264<|aj s264<|aj z264<|aj q264<|aj n264<|aj a266<|aj s266<|aj z266<|aj i266<|aj n266<|aj p266<|aj ff266<|aj d266<|aj a274<|aj s274<|aj z274<|aj i274<|aj n274<|aj p274<|aj ff274<|aj d274<|aj u330<|aj a330<|aj s330<|aj z330<|aj q330<|aj i330<|n330
open Tryz in
def Tryz.FFh1209:=aj a1<|aj s1<|aj z1<|aj n1<|aj u2<|aj a2<|aj s2<|aj z2<|aj i2<|aj u3<|aj a3<|aj s3<|aj z3<|aj i3<|aj u242<|aj a242<|aj s242<|aj z242<|aj n242<|aj u264<|aj a264<|aj s264<|aj z264<|aj q264<|aj n264<|aj a266<|aj s266<|aj z266<|aj i266<|aj n266<|aj p266<|aj ff266<|aj d266<|aj a274<|aj s274<|aj z274<|aj i274<|aj n274<|aj p274<|aj ff274<|aj d274<|aj u330<|aj a330<|aj s330<|aj z330<|aj q330<|aj i330<|n330
def cmpI(a b:Int):Int:=if a<b then-1 else if b<a then 1 else 0
theorem tC{h0:Hp}(ok:h0.t.Sized h0.n){a:Int}:bA xd 182 [.int .i64 a] h0 (.bool false):=by
 have S:=Si ok
 refine ac (n:=6) (rs:=[.tmp 2]) rfl Tryz.e182 rfl rfl rfl (lbt rfl) ?_
 simp only [BS,LB,ae,Nat.reduceLT,Nat.reduceEqDiff]
 exact S.gr
theorem nanI_ok{h0:Hp}(ok:h0.t.Sized h0.n){a:Int}:bA xd 276 [.int .i64 a] h0 (.bool false):=by
 have S:=Si ok
 refine ac (n:=6) (rs:=[.tmp 2]) rfl Tryz.e276 rfl rfl rfl (lbt rfl) ?_
 simp only [BS,LB,ae,Nat.reduceLT,Nat.reduceEqDiff]
 exact S.gr
theorem cmp64_ok{h0:Hp}(ok:h0.t.Sized h0.n){a b:Int}:bA xd 102 [.int .i64 a,.int .i64 b] h0 (.int .i64 (cmpI a b)):=by
 have S:=Si ok
 unfold cmpI
 refine ac (n:=20) (rs:=[.tmp 4]) rfl Tryz.e102 rfl rfl rfl (lbt rfl) ?_
 simp only [BS,LB,Nat.reduceLT,Nat.reduceEqDiff]
 refine aq (tC S.ok) ?_;intro h g;replace S:=S.call g;clear g
 simp only [BS,LB,Nat.reduceLT,Nat.reduceEqDiff]
 refine aq (tC S.ok) ?_;intro h g;replace S:=S.call g;clear g
 by_cases h1:a<b
 . simp only [BS,LB,ae,Nat.reduceLT,Nat.reduceEqDiff,h1]
   exact S.gr
 . by_cases h2:b<a
   . simp only [BS,LB,ae,Nat.reduceLT,Nat.reduceEqDiff,h1,h2]
     exact S.gr
   . simp only [BS,LB,ae,Nat.reduceLT,Nat.reduceEqDiff,h1,h2]
     exact S.gr
theorem cmpInt_ok{h0:Hp}(ok:h0.t.Sized h0.n){a b:Int}:bA xd 270 [.int .i64 a,.int .i64 b] h0 (.int .i64 (cmpI a b)):=by
 have S:=Si ok
 unfold cmpI
 refine ac (n:=20) (rs:=[.tmp 4]) rfl Tryz.e270 rfl rfl rfl (lbt rfl) ?_
 simp only [BS,LB,Nat.reduceLT,Nat.reduceEqDiff]
 refine aq (nanI_ok S.ok) ?_;intro h g;replace S:=S.call g;clear g
 simp only [BS,LB,Nat.reduceLT,Nat.reduceEqDiff]
 refine aq (nanI_ok S.ok) ?_;intro h g;replace S:=S.call g;clear g
 by_cases h1:a<b
 . simp only [BS,LB,ae,Nat.reduceLT,Nat.reduceEqDiff,h1]
   exact S.gr
 . by_cases h2:b<a
   . simp only [BS,LB,ae,Nat.reduceLT,Nat.reduceEqDiff,h1,h2]
     exact S.gr
   . simp only [BS,LB,ae,Nat.reduceLT,Nat.reduceEqDiff,h1,h2]
     exact S.gr
theorem or2_ok{h0:Hp}(ok:h0.t.Sized h0.n){v:Value}{a b:Int}(hv:aE h0 1 (encI .i64) v [a,b]):bA xd 269 [v] h0 (.int .i64 (if a=0 then b else a)):=by
 have S:=Si ok
 obtain⟨c0,o0,i0,l0⟩:=hv.ix (kd:=.i64) (cu .i64) (i:=0) (by simp)
 obtain⟨c1,o1,i1,l1⟩:=hv.ix (kd:=.i64) (cu .i64) (i:=1) (by simp)
 have i0':jy (some 1) v (.int .i64 0)=some (.pointer (some ⟨c0,o0,none⟩)):=i0
 have i1':jy (some 1) v (.int .i64 1)=some (.pointer (some ⟨c1,o1,none⟩)):=i1
 replace l0:h0.load c0 o0 1=some [.int .i64 a]:=l0
 replace l1:h0.load c1 o1 1=some [.int .i64 b]:=l1
 have w1:ao .i64 1=1:=rfl
 have w2:ao .i64 2=2:=rfl
 refine ac (n:=18) (rs:=[.tmp 2]) rfl Tryz.e269 rfl rfl rfl (lbt rfl) ?_
 simp only [BS,LB,Nat.reduceLT,Nat.reduceEqDiff,Nat.reduceAdd,xu,Tryz.FFh1269,hv.lenq]
 rw [cq]
 by_cases ha:a=0
 . simp only [BS,LB,Nat.reduceLT,Nat.reduceEqDiff,Int.reduceLT,Int.reduceAdd,Tryz.FFh1269,i0',l0,ha,w1]
   rw [cq]
   by_cases hb:b=0
   . simp only [BS,LB,Nat.reduceLT,Nat.reduceEqDiff,Int.reduceLT,Int.reduceAdd,Tryz.FFh1269,i1',l1,hb,w2]
     rw [cq]
     simp only [BS,LB,ae,Nat.reduceLT,Nat.reduceEqDiff,Int.reduceLT]
     exact S.gr
   . simp only [BS,LB,ae,Nat.reduceLT,Nat.reduceEqDiff,Int.reduceLT,Tryz.FFh1269,i1',l1,hb]
     exact S.gr
 . simp only [BS,LB,ae,Nat.reduceLT,Nat.reduceEqDiff,Int.reduceLT,Tryz.FFh1269,i0',l0,ha]
   exact S.gr
theorem uC{h0:Hp}(ok:h0.t.Sized h0.n){bh bl bm cap:Nat}{n:Int}{l:List Hd}(R:dP h0 bh bl bm cap n l){i k:Nat}(hi:i<l.length)(hk:k<l.length):
 bA xd 254 [ptrTo bh,.int .i64 i,.int .i64 k] h0 (.bool (decide (hlt (l.getD i default) (l.getD k default)))):=by
 have S:=Si ok
 obtain⟨cs,es,c,f,hc,hm,C,MI,IF⟩:=R.ex
 have r0:=R.row.load1 (o:=0) rfl
 have i0:=C.ld0 hc hi
 have i1:=C.ld1 hc hi
 have k0:=C.ld0 hc hk
 have k1:=C.ld1 hc hk
 refine ac (n:=44) (rs:=[.tmp 6]) rfl Tryz.e254 rfl rfl rfl (lbt rfl) ?_
 simp only [BS]
 refine aA (aI rfl) (q:=17179869184) (ps:=[(16,32),(16,28),(16,24),(16,20)]) (by kernel_rfl) ?_
 simp only [BS,LB,cls,Nat.reduceLT,Nat.reduceEqDiff,Nat.reduceAdd,Nat.reducePow,Nat.reduceDiv,Nat.reduceMod,Nat.reduceLeDiff,Tryz.FFh1254,r0,hi,hk,i1,k1]
 refine dL (cmp64_ok S.ok) ?_
 intro h g;replace S:=S.call g
 replace r0:=g.load r0;replace i0:=g.load i0;replace i1:=g.load i1;replace k0:=g.load k0;replace k1:=g.load k1
 have e1:leaves _ _ bl=true:=aF g (hc.lt ok)
 have e2:leaves _ _ bh=true:=aF g (R.row.lt ok)
 clear g
 simp only [BS,LB,cls,Nat.reduceLT,Nat.reduceEqDiff,Nat.reduceAdd,Nat.reducePow,Nat.reduceDiv,Nat.reduceMod,Nat.reduceLeDiff,Tryz.FFh1254,r0,hi,hk,i0,k0]
 refine dL (cmpInt_ok S.ok) ?_
 intro h2 g;replace S:=S.call g
 replace r0:=g.load r0;replace i0:=g.load i0;replace i1:=g.load i1;replace k0:=g.load k0;replace k1:=g.load k1
 clear g
 simp only [BS,LB,cls,Nat.reduceLT,Nat.reduceEqDiff,Nat.reduceAdd,Nat.reducePow,Nat.reduceDiv,Nat.reduceMod,Nat.reduceLeDiff]
 refine dT (bW (by exact xJ) (by exact xQ) (by decide) (by rfl)) S ?_;clear S;intro h bs S n_bs e_bs;simp only [LC,aP,bj,ah,Nat.reduceMul,Nat.reduceAdd,xI,xy,xA,xV]at S
 simp only [BS,LB,cls,Nat.reduceLT,Nat.reduceEqDiff,Nat.reduceAdd,Nat.reducePow,Nat.reduceDiv,Nat.reduceMod,Nat.reduceLeDiff]
 have hv:aE h 1 (encI .i64) (.slice (some ⟨bs,0,none⟩) 2 2) [cmpI (l.getD i default).key (l.getD k default).key,cmpI (l.getD i default).id (l.getD k default).id]:=.inr ⟨bs,0,none,2,rfl,xL _,S.lds (b:=bs) (o:=0) (n:=2*1) m0 (lbt rfl)⟩
 refine dL (or2_ok S.ok hv) ?_
 intro h3 g;replace S:=S.call g;clear g
 simp only [BS,LB,cls,ae,Nat.reduceLT,Nat.reduceEqDiff,Nat.reduceAdd,Nat.reducePow,Nat.reduceDiv,Nat.reduceMod,Nat.reduceLeDiff]
 refine⟨by simp only [bH,bJ,aZ,bM,bn,ne_eq,not_false_eq_true,bT,cC,bE,bu,cg,dm,aU,Nat.reduceLT,Nat.reduceEqDiff,reduceIte,yx,ab,bw e1,bw e2,aR e1,aR e2],?_⟩
 have e3:decide ((if cmpI (l.getD i default).key (l.getD k default).key=0 then cmpI (l.getD i default).id (l.getD k default).id else cmpI (l.getD i default).key (l.getD k default).key)<0)=decide (hlt (l.getD i default) (l.getD k default)):=by
  congr 1
  rw [eq_iff_iff]
  unfold cmpI hlt
  repeat' split
  all_goals omega
 exact⟨by rw [e3],S.gr⟩
theorem pt{h0:Hp}(ok:h0.t.Sized h0.n){bh bl bm cap:Nat}{n:Int}{l:List Hd}(R:dP h0 bh bl bm cap n l){i k:Nat}(hi:i<l.length)(hk:k<l.length):
 Ret xd 209 [ptrTo bh,.int .i64 i,.int .i64 k] h0 fun v h'=>Mo (fun c=>c=bl\/c=bm) h0 h'/\dP h' bh bl bm cap n (sw l i k):=by
 obtain⟨cs,es,c,f,hc,hm,C,MI,IF⟩:=R.ex
 have S:=St.init2 (M:=fun c=>c=bl\/c=bm) ok (o1:=.row cs 1) (o2:=.map es c) hc hm R.ne.2.2 (.inl rfl) (.inr rfl)
 have nM: ¬(bh=bl\/bh=bm):=fun h=>h.elim R.ne.1 R.ne.2.1
 have r0:=R.row.load1 (o:=0) rfl
 have r1:=R.row.load1 (o:=1) rfl
 have i2:=C.ld2 hc hi
 have k2:=C.ld2 hc hk
 have clen:=C.len
 have cle:=C.le
 refine ac (n:=62) (rs:=[]) rfl Tryz.e209 rfl rfl rfl (lbt rfl) ?_
 simp only [BS]
 refine aA (aI rfl) (q:=0) (ps:=[]) (by kernel_rfl) ?_
 simp only [BS,LB,cls,Nat.reduceLT,Nat.reduceEqDiff,Nat.reduceAdd,Nat.reducePow,Nat.reduceDiv,Nat.reduceMod,Nat.reduceLeDiff,Tryz.FFh1209,r0,hi,hk,i2,k2]
 refine dV (S.store (i:=0) rfl Tryz.s274 (by intro x e;cases e) rfl rfl (by omega) ono) ?_
 clear S;rintro h ⟨S,mo⟩;clear mo
 have C1:=C.set hi (l.getD k default)
 simp only [LC,ah]at S
 have r0':=S.old r0 nM
 simp only [BS,LB,cls,Nat.reduceLT,Nat.reduceEqDiff,Nat.reduceAdd,Nat.reducePow,Nat.reduceDiv,Nat.reduceMod,Nat.reduceLeDiff,Tryz.FFh1209,hk]
 generalize lay cs (i*2) _=cs1 at S C1
 have c1l:=C1.len
 refine dV (S.store (i:=0) (off:=k*2) rfl Tryz.s274 (by intro x e;cases e) rfl rfl (by omega) ono) ?_
 clear S;rintro h ⟨S,mo⟩;clear mo
 have C2:=C1.set (i:=k) (by rw [xg];exact hk) (l.getD i default)
 simp only [LC,ah]at S
 generalize lay cs1 (k*2) _=cs2 at S C2
 rw [set_sw]at C2
 clear r0'
 have r0':=S.old r0 nM
 have r1':=S.old r1 nM
 have hi2:i<(sw l i k).length:=by rw [eX];exact hi
 have hk2:k<(sw l i k).length:=by rw [eX];exact hk
 have ai:=C2.ld0 (S.row m0) hi2
 have ak:=C2.ld0 (S.row m0) hk2
 simp only [BS,LB,Nat.reduceAdd]
 refine aA (aI rfl) (q:=0) (ps:=[]) (by kernel_rfl) ?_
 simp only [BS,LB,cls,Nat.reduceLT,Nat.reduceEqDiff,Nat.reduceAdd,Nat.reducePow,Nat.reduceDiv,Nat.reduceMod,Nat.reduceLeDiff,Tryz.FFh1209,r0',r1',hi,hk,ai,ak]
 refine dn_v (P:=fun h' v=> ∃n es' c',v=.tuple #[(f ((sw l i k).getD i default).id).getD (.int .i64 0),.int .i64 (yA n)]/\St (fun c=>c=bl\/c=bm) h0 h' [(bl,.row cs2 1),(bm,.map es' c')] []/\ ∀w,∃es2,fC n w es'=some es2/\dh es2 c' (dG f ((sw l i k).getD i default).id (some w))) ?_ ?_
 . obtain⟨h',n,e1,_,es',c',_,e4,e5⟩:=S.mentI (i:=1) (x:=(((sw l i k).getD i default).id:Int)) rfl xB xM (z:=.int .i64 0) (by kernel_rfl) MI
   exact⟨h',_,e1,n,es',c',rfl,e4,e5⟩
 clear S ai ak r0' r1'
 rintro h v ⟨s1,es1,c1,rfl,S,hst⟩
 obtain⟨es2,est,MI2⟩:=hst (.int .i64 i)
 simp only [BS,LB,cls,Nat.reduceLT,Nat.reduceEqDiff,Nat.reduceAdd,Nat.reducePow,Nat.reduceDiv,Nat.reduceMod,Nat.reduceLeDiff,yu]
 refine dV (S.mstoreI (i:=1) rfl est) ?_
 clear S;rintro h ⟨mo,S⟩;clear mo
 simp only [LC]at S
 simp only [BS,LB,cls,Nat.reduceLT,Nat.reduceEqDiff,Nat.reduceAdd,Nat.reducePow,Nat.reduceDiv,Nat.reduceMod,Nat.reduceLeDiff]
 refine dn_v (P:=fun h' v=> ∃n es' c',v=.tuple #[(dG f ((sw l i k).getD i default).id (some (.int .i64 i)) ((sw l i k).getD k default).id).getD (.int .i64 0),.int .i64 (yA n)]/\St (fun c=>c=bl\/c=bm) h0 h' [(bl,.row cs2 1),(bm,.map es' c')] []/\ ∀w,∃es2,fC n w es'=some es2/\dh es2 c' (dG (dG f ((sw l i k).getD i default).id (some (.int .i64 i))) ((sw l i k).getD k default).id (some w))) ?_ ?_
 . obtain⟨h',n,e1,_,es',c',_,e4,e5⟩:=S.mentI (i:=1) (x:=(((sw l i k).getD k default).id:Int)) rfl xB xM (z:=.int .i64 0) (by kernel_rfl) MI2
   exact⟨h',_,e1,n,es',c',rfl,e4,e5⟩
 clear S
 rintro h v ⟨s2,es3,c3,rfl,S,hst2⟩
 obtain⟨es4,est2,MI4⟩:=hst2 (.int .i64 k)
 simp only [BS,LB,cls,Nat.reduceLT,Nat.reduceEqDiff,Nat.reduceAdd,Nat.reducePow,Nat.reduceDiv,Nat.reduceMod,Nat.reduceLeDiff,yu]
 refine dV (S.mstoreI (i:=1) rfl est2) ?_
 clear S;rintro h ⟨mo,S⟩;clear mo
 simp only [LC]at S
 simp only [BS,LB,Nat.reduceAdd]
 refine⟨S.fr,?_,⟨cs2,es4,c3,_,S.row m0,(S.own _ m1).2,C2,MI4,IF.swap hi hk⟩,R.ne⟩
 rw [eX]
 exact S.fr.has (o:=.row _ 1) R.row nM
theorem up_ok{h0:Hp}(ok:h0.t.Sized h0.n){bh bl bm cap:Nat}{n:Int}{l:List Hd}(R:dP h0 bh bl bm cap n l){i:Nat}(hi:i<l.length)(hl:l.length<1000000)(U:mX l i):
 Ret xd 253 [ptrTo bh,.int .i64 i] h0 fun v h'=>Mo (fun c=>c=bl\/c=bm) h0 h'/\ ∃l',dP h' bh bl bm cap n l'/\l'.Perm l/\ju l':=by
 refine ac (n:=23) (rs:=[]) rfl Tryz.e253 rfl rfl rfl (lbt rfl) ?_
 simp only [BS]
 refine aV (fun(i:Nat) ρ h=>i<l.length/\Mo (fun c=>c=bl\/c=bm) h0 h/\ ∃l',dP h bh bl bm cap n l'/\l'.Perm l/\mX l' i/\ρ 0=ptrTo bh/\ρ 1=.int .i64 i) (fun i=>i) ?_ i _ _ ?_
 . intro i ih ρ h ⟨hi,mo,l',R,pm,U,r0,r1⟩
   have hlen:=pm.length_eq
   by_cases h0':i=0
   . subst h0'
     simp only [BS,LB,Nat.reduceLT,Nat.reduceEqDiff,Int.reduceLT,xu,r1]
     exact⟨mo,l',R,pm,up_done U (.inl rfl)⟩
   . have hp:(0:Int)<(i:Int):=by omega
     have w1:ao .i64 ((i:Int)-1)=((i-1:Nat):Int):=by rw [wrap64]<;>omega
     have w2:ao .i64 (((i-1:Nat):Int).tdiv 4)=(((i-1)/4:Nat):Int):=by
      rw [Int.tdiv_eq_ediv_of_nonneg (by omega),show(((i-1:Nat):Int)/4)=(((i-1)/4:Nat):Int) by omega,wrap64]<;>omega
     simp only [BS,LB,Nat.reduceLT,Nat.reduceEqDiff,r0,r1,hp,w1,w2,kh (n:=4) (by decide)]
     refine aq (uC mo.ok R (i:=i) (k:=(i-1)/4) (by omega) (by omega)) ?_
     intro h g;replace R:=R.gr g;replace mo:=mo.trans (M':=NoM) g.fr (fun _ h=>h.elim);clear g
     by_cases ha:hlt (l'.getD i default) (l'.getD ((i-1)/4) default)
     . simp only [BS,LB,Nat.reduceLT,Nat.reduceEqDiff,r0,r1,w1,w2,kh (n:=4) (by decide),ha]
       refine step_ret (pt mo.ok R (i:=i) (k:=(i-1)/4) (by omega) (by omega)) ?_
       rintro v h ⟨f,R⟩
       replace mo:=mo.trans f (fun _ h=>.inl h)
       simp only [BS,LB,Nat.reduceLT,Nat.reduceEqDiff,r1,w1,w2,kh (n:=4) (by decide)]
       exact ih ((i-1)/4) _ _ (by omega) ⟨by omega,mo,_,R,(pf l' (by omega) (by omega)).trans pm,up_step (by omega) U (by omega) ha,by simp [aa,r0,ab],by simp [aa]⟩
     . simp only [BS,LB,Nat.reduceLT,Nat.reduceEqDiff,kh (n:=4) (by decide),ha]
       exact⟨mo,l',R,pm,up_done U (.inr (qZ ha))⟩
 . exact⟨hi,Mo.refl ok,l,R,.refl _,U,by simp [aQ,ab],by simp [aQ,bU]⟩
open Tryz in
def Tryz.FFh2271:=aj a1<|aj s1<|aj z1<|aj n1<|aj u2<|aj a2<|aj s2<|aj z2<|aj i2<|aj u3<|aj a3<|aj s3<|aj z3<|aj i3<|aj u4<|aj a4<|aj s4<|aj z4<|aj n4<|aj a124<|aj s124<|aj z124<|aj n124<|aj u242<|aj a242<|aj s242<|aj z242<|aj n242<|aj u264<|aj a264<|aj s264<|aj z264<|aj q264<|aj n264<|aj a266<|aj s266<|aj z266<|aj i266<|aj n266<|aj p266<|aj ff266<|aj d266<|aj a274<|aj s274<|aj z274<|aj i274<|aj n274<|aj p274<|aj ff274<|aj d274<|aj u330<|aj a330<|aj s330<|aj z330<|aj q330<|aj i330<|n330
open Tryz in
def Tryz.FFh2210:=aj a1<|aj s1<|aj z1<|aj n1<|aj u2<|aj a2<|aj s2<|aj z2<|aj i2<|aj u3<|aj a3<|aj s3<|aj z3<|aj i3<|aj u4<|aj a4<|aj s4<|aj z4<|aj n4<|aj u5<|aj a5<|aj s5<|aj z5<|aj i5<|aj u6<|aj a6<|aj s6<|aj z6<|aj i6<|aj a7<|aj s7<|aj z7<|aj i7<|aj n7<|aj p7<|aj ff7<|aj d7<|aj a8<|aj s8<|aj z8<|aj i8<|aj n8<|aj p8<|aj ff8<|aj d8<|aj u9<|aj a9<|aj s9<|aj z9<|aj n9<|aj u12<|aj a12<|aj s12<|aj z12<|aj i12<|aj a13<|aj s13<|aj z13<|aj i13<|aj n13<|aj p13<|aj ff13<|aj d13<|aj a45<|aj s45<|aj z45<|aj n45<|aj a110<|aj s110<|aj z110<|aj n110<|aj u242<|aj a242<|aj s242<|aj z242<|aj n242<|aj u264<|aj a264<|aj s264<|aj z264<|aj q264<|aj n264<|aj a266<|aj s266<|aj z266<|aj i266<|aj n266<|aj p266<|aj ff266<|aj d266<|aj u330<|aj a330<|aj s330<|aj z330<|aj q330<|aj i330<|n330
theorem St.monoM{M:Nat->Prop}{h0 h:Hp}{L:List (Nat×Ob)}{G:List GL}(S:St NoM h0 h L G):St M h0 h L G:=
 ⟨S.fr.mono (fun _ h=>h.elim),fun p hp=>⟨(S.own p hp).1.imp (fun h=>h) (fun h=>h.elim),(S.own p hp).2⟩,fun p hp=>⟨(S.gown p hp).1,fun b hb=>((S.gown p hp).2 b hb).imp (fun h=>h) (fun h=>h.elim)⟩,S.apart⟩
theorem below_ok{h0:Hp}(ok:h0.t.Sized h0.n){bh i:Nat}:Ret xd 255 [ptrTo bh,.int .i64 i] h0 fun v h'=>Gr h0 h'/\ ∃b1 b2,v=.func (.func 271) #[] #[ptrTo b1,ptrTo b2]/\h0.n<=b1/\h0.n<=b2/\h'.load b1 0 1=some [.int .i64 i]/\h'.load b2 0 1=some [ptrTo bh]:=by
 have S:=Si ok
 refine ac (n:=6) (rs:=[.tmp 4]) rfl Tryz.e255 rfl rfl rfl (lbt rfl) ?_
 simp only [BS,Nat.reduceLT]
 refine ag (cG (by exact dR)) S ?_;clear S;intro h b2 S n_b2
 simp only [BS,Nat.reduceLT,Nat.reduceEqDiff,if_false]
 refine ag (cG (by exact bO)) S ?_;clear S;intro h b1 S n_b1
 simp only [BS,LB,ae,Nat.reduceLT,Nat.reduceEqDiff]
 exact⟨S.gr,b1,b2,rfl,n_b1,n_b2,S.ld m0 rfl,S.ld m1 rfl⟩
theorem vU{h0:Hp}(ok0:h0.t.Sized h0.n){b1 b2 bh i n cap:Nat}{sl':Addr}(hb1:h0.load b1 0 1=some [.int .i64 i])(hb2:h0.load b2 0 1=some [ptrTo bh])(hs:h0.load bh 0 1=some [.slice (some sl') n cap])(hn:n<1000000)(hi:i<1000000):
 Iter xd 271 [] [ptrTo b1,ptrTo b2] h0 (fun c=>c=b1\/c=b2\/c=bh) ((xe (min 4 (n-(4*i+1)))).map fun j=>[.int .i64 ((4*i+1+j:Nat):Int)]):=by
 refine oS fun lb J Z Y h F s hj=>?_
 refine enter (n:=28) (rs:=[]) rfl Tryz.e271 rfl rfl rfl (lbt rfl) ?_
 have l1:=s.load ok0 hb1 (.inl rfl)
 have a1:ao .i64 (4*(i:Int))=((4*i:Nat):Int):=by rw [wrap64]<;>omega
 have a2:ao .i64 (((4*i:Nat):Int)+1)=((4*i+1:Nat):Int):=by rw [wrap64]<;>omega
 have a3:ao .i64 (((4*i:Nat):Int)+4)=((4*i+4:Nat):Int):=by rw [wrap64]<;>omega
 simp only [BS,LB,Nat.reduceLT,Nat.reduceEqDiff,Tryz.FFh2271,l1,a1,a2]
 refine aV (fun(j:Nat) ρ h=>j<=min 4 (n-(4*i+1))/\ ∃F,ItS h0 (fun c=>c=b1\/c=b2\/c=bh) h F/\J j h F/\ρ 0=.func (.yield lb) #[] #[]/\ρ 1=ptrTo b1/\ρ 2=ptrTo b2/\ρ 4=.int .i64 ((4*i+1+j:Nat):Int)) (fun j=>min 4 (n-(4*i+1))-j) ?_ 0 _ _ ?_
 . clear l1
   intro j ih ρ h ⟨hjm,F,s,hj,r0,r1,r2,r4⟩
   have l1:=s.load ok0 hb1 (.inl rfl)
   have l2:=s.load ok0 hb2 (.inr (.inl rfl))
   have l3:=s.load ok0 hs (.inr (.inr rfl))
   by_cases hlt:j<min 4 (n-(4*i+1))
   . have c1:((4*i+1+j:Nat):Int)<=((4*i+4:Nat):Int):=by omega
     have c2:4*i+1+j<n:=by omega
     have w:ao .i64 (((4*i+1+j:Nat):Int)+1)=((4*i+1+(j+1):Nat):Int):=by rw [wrap64]<;>omega
     simp only [BS,LB,Nat.reduceLT,Nat.reduceEqDiff,Tryz.FFh2271,r0,r1,r2,r4,l1,l2,l3,a1,a3,c1,c2,aG]
     refine dr Y s hj (i:=j) (by rw [yg,yy hlt];rfl) ?_ ?_ ?_
     . intro h' F' a s' _ _
       simp only [BS,LB,Nat.reduceLT,Nat.reduceEqDiff,r4,w]
       exact ih (j+1) _ _ (by omega) ⟨by omega,F',s',a,by simp [aa,r0],by simp [aa,r1,ab],by simp [aa,r2,ab],by simp [aa]⟩
     . intro h' a _
       simp only [BS,LB,Nat.reduceLT,Nat.reduceEqDiff]
       exact eQ rfl ⟨rfl,.inr (.inl ⟨_,rfl,a⟩)⟩
     . intro v h' a
       simp only [BS]
       exact iv (c5 ⟨rfl,.inr (.inr ⟨_,rfl,a⟩)⟩)
   . have ej:j=min 4 (n-(4*i+1)):=by omega
     have fin:YQ J Z (min 4 (n-(4*i+1))) (.ret (ae [])) none h:=⟨rfl,.inl ⟨_,F,rfl,by rw [<-ej];exact hj⟩⟩
     by_cases c1:((4*i+1+j:Nat):Int)<=((4*i+4:Nat):Int)
     . have c2: ¬4*i+1+j<n:=by omega
       simp only [BS,LB,Nat.reduceLT,Nat.reduceEqDiff,Tryz.FFh2271,r1,r2,r4,l1,l2,l3,a1,a3,c1,c2,aG]
       exact cQ (c5 ⟨rfl,_,rfl,by simpa using fin⟩)
     . simp only [BS,LB,Nat.reduceLT,Nat.reduceEqDiff,Tryz.FFh2271,r1,r4,l1,a1,a3,c1]
       exact cQ (c5 ⟨rfl,_,rfl,by simpa using fin⟩)
 . exact⟨by omega,F,s,hj,by simp [aa,cm],by simp [aa,cm,ab],by simp [aa,cm,ab],by simp [aa]⟩
theorem down_ok {h0:Hp} (ok:h0.t.Sized h0.n) {bh bl bm cap:Nat} {n:Int} {l:List Hd} (R:dP h0 bh bl bm cap n l) {i:Nat} (hi:i<l.length\/(l=[]/\i=0)) (hl:l.length<100000) (D:oZ l i):
 Ret xd 210 [ptrTo bh,.int .i64 i] h0 fun v h'=>Mo (fun c=>c=bl\/c=bm) h0 h'/\ ∃l',dP h' bh bl bm cap n l'/\l'.Perm l/\ju l':=by
 have lt:=R.lt ok
 have S:=Si ok
 have nk: ∀{L:List (Nat×Ob)},(∀c∈keys L [],h0.n<=c)-> ∀c,c=bh\/c=bl\/c=bm-> ¬c∈keys L []:=fun hK c hc hm=>by have:=lt c hc;have:=hK c hm;omega
 refine ac (n:=27) (rs:=[]) rfl Tryz.e210 rfl rfl rfl (lbt rfl) ?_
 simp only [BS,LB,Nat.reduceLT,Tryz.FFh2210]
 refine ag ax S ?_;clear S;intro h bf S n_bf
 simp only [BS,LB,Nat.reduceLT,Nat.reduceEqDiff]
 refine az (aB S (i:=0) rfl ?_ ?_ ?_ ono) ?_
 . exact(by simp only [Tryz.FFh2210])
 . exact(by exact iG)
 . exact xm (lbt rfl)
 clear S;rintro h ⟨S,mo⟩;clear mo;simp only [LC,ah,lay,xq,xt,Nat.reduceAdd]at S
 simp only [BS]
 have RR:=R.gr S.gr
 replace S:=S.monoM (M:=fun c=>c=bl\/c=bm)
 refine me (fun(i:Nat) ρ d h=> ∃(dbs:List Nat) (l':List Hd),d=dbs.map mj/\St (fun c=>c=bl\/c=bm) h0 h (cD dbs++[(bf,.row [.func (.func 254) #[ptrTo bh] #[]] 1)]) []/\(∀c∈keys (cD dbs++[(bf,Ob.row [.func (.func 254) #[ptrTo bh] #[]] 1)]) [],h0.n<=c)/\
  dP h bh bl bm cap n l'/\l'.Perm l/\oZ l' i/\(i<l.length\/(l=[]/\i=0))/\ρ 0=ptrTo bh/\ρ 1=.int .i64 i/\ρ 4=ptrTo bf) (fun i=>l.length-i) ?_ i _ _ _ ?_
 . clear S RR R D hi i
   intro i ih ρ d hS ⟨dbs,l',hd,S0,hK,R,pm,D,hi,r0,r1,r4⟩
   have hlen:=pm.length_eq
   have hi':i<1000000:=by rcases hi with hi|⟨_,hi⟩<;>omega
   have S:=S0.base
   have Rs:=R
   have n0:h0.n<=hS.n:=S0.fr.n
   simp only [BS,Nat.reduceLT,Tryz.FFh2210,r1]
   refine ag ax S ?_;clear S;intro h bb S n_bb
   simp only [BS,LB,Nat.reduceLT,Nat.reduceEqDiff]
   refine az (aB S (i:=0) rfl ?_ ?_ ?_ ono) ?_
   . exact(by simp only [Tryz.FFh2210])
   . exact(by exact bO)
   . exact xm (lbt rfl)
   clear S;rintro h ⟨S,mo⟩;clear mo;simp only [LC,ah,lay,xq,xt,Nat.reduceAdd]at S
   simp only [BS,LB,Nat.reduceLT,Nat.reduceEqDiff,r0,r1]
   have gq:=S.fr.n
   have lbb:=S.key_lt (b:=bb) (by simp [keys])
   refine step_ret (below_ok S.ok) ?_;intro v h ⟨g,b1,b2,e,n1,n2,q1,q2⟩;replace S:=S.call g;clear g
   subst e
   simp only [BS]
   replace R:=R.mo1 S.fr (nk hK)
   have gh:=S.fr.n
   refine iC S (g:=271) (a:=#[]) (b:=#[ptrTo b1,ptrTo b2]) (by simp [cg,aa,ab]) rfl rfl ?_
   intro h2 db lb S' hdb hlb g2
   have kb: ∀c∈keys (cD dbs++[(bf,Ob.row [.func (.func 254) #[ptrTo bh] #[]] 1)]) [],c<b1/\c<b2:=fun c hc=>by have:=S0.key_lt hc;have:=n_bb;omega
   generalize hB:cD dbs++[(bf,Ob.row [.func (.func 254) #[ptrTo bh] #[]] 1)]=B at S S' S0 hK kb
   have mf:(bf,Ob.row [.func (.func 254) #[ptrTo bh] #[]] 1)∈B:=by rw [<-hB];exact List.mem_append_right _ m0
   obtain⟨X,hX,S'⟩: ∃X:eF,X=_/\St (· ∈keys B []) hS h2 ((lb,.loop X)::(db,.dfr)::(bb,.row [.int .i64 (i:Nat)] 1)::B) []:=⟨_,rfl,S'⟩
   have R2:=R.gr g2
   have ch: ∀j,j<min 4 (l'.length-(4*i+1))->4*i+1+j<l'.length/\(4*i+1+j-1)/4=i:=fun j hj=>⟨by omega,by omega⟩
   have hY:Yld xd lb (fun j h' F=> ∃best:Nat,St (· ∈keys B []) hS h' ((lb,.loop X)::(db,.dfr)::(bb,.row [.int .i64 (best:Nat)] 1)::B) []/\F=keys ((lb,.loop X)::(db,.dfr)::(bb,.row [.int .i64 (best:Nat)] 1)::B) []/\
    (best<l'.length\/(l'=[]/\best=i))/\hle (l'.getD best default) (l'.getD i default)/\(∀q,q<j->hle (l'.getD best default) (l'.getD (4*i+1+q) default))/\(best=i\/(0<best/\(best-1)/4=i/\hlt (l'.getD best default) (l'.getD i default)))) (fun _ _=>False) ((xe (min 4 (l'.length-(4*i+1)))).map fun j=>[.int .i64 ((4*i+1+j:Nat):Int)]):=by
    refine⟨?_,?_,fun _ _ h=>h.elim,?_⟩
    . rintro j h F ⟨best,S,rfl,_⟩;exact⟨S.ok,fun b hb=>S.key_lt hb⟩
    . rintro j h F h' ⟨best,S,rfl,k⟩ g;exact⟨best,S.call g,rfl,k⟩
    . rintro j x h F hx ⟨best,S,rfl,k1,k2,k3,k4⟩
      have hjl:j<min 4 (l'.length-(4*i+1)):=by
       have:=(List.getElem?_eq_some_iff.1 hx).1
       simpa using this
      rw [yg,yy hjl]at hx
      cases hx
      obtain⟨c1,c2⟩:=ch j hjl
      replace k1:=k1.resolve_right (by intro e;rw [e.1]at c1;simp at c1)
      obtain⟨X0,hX0⟩: ∃x,x=X:=⟨_,rfl⟩
      subst hX
      refine iB (S.get m0) (by rw [Tryz.e210];rfl) rfl ?_
      have S1:=S
      replace S:=S.base
      simp only [BS,LB,Nat.reduceLT,Nat.reduceEqDiff]
      refine gJ S (i:=0) rfl rfl rfl rfl rfl ?_
      clear S;intro h S
      simp only [LC]at S
      have lf:h.load bf 0 1=some [.func (.func 254) #[ptrTo bh] #[]]:=S.ld (o:=0) (.tail _ (.tail _ (.tail _ mf))) rfl
      simp only [BS,LB,Nat.reduceLT,Nat.reduceEqDiff,Tryz.FFh2210,r4,lf,S.ld (b:=bb) (o:=0) m2 rfl]
      have hK': ∀c∈keys ((lb,Ob.loop X0)::(db,.dfr)::(bb,.row [.int .i64 (best:Nat)] 1)::B) [],h0.n<=c:=fun c hc=>(S1.key_own hc).elim (fun h=>by omega) (fun h=>hK c h)
      clear hX0
      have Rc:dP h bh bl bm cap n l':=(Rs.mo1 S1.fr (nk hK)).mo1 S.fr (nk hK')
      refine aq (uC S.ok Rc c1 k1) ?_
      intro h g;replace S:=S.call g;clear g Rc lf
      by_cases ha:hlt (l'.getD (4*i+1+j) default) (l'.getD best default)
      . simp only [BS,LB,Nat.reduceLT,Nat.reduceEqDiff,ha]
        refine az (aB S (i:=2) rfl ?_ ?_ ?_ ono) ?_
        . exact(by simp only [Tryz.FFh2210])
        . exact(by exact bO)
        . exact xm (lbt rfl)
        clear S;rintro h ⟨S,mo⟩;clear mo;simp only [LC,ah,lay,xq,xt,Nat.reduceAdd]at S
        simp only [BS]
        refine ee S (i:=0) rfl ?_
        clear S;intro h S
        simp only [LC]at S
        refine .inl ⟨rfl,_,⟨4*i+1+j,S1.rebase S,rfl,.inl c1,iD (oF ha) k2,fun q hq=>?_,.inr ⟨by omega,c2,?_⟩⟩,S.fr,S.key_new⟩
        . by_cases e:q=j
          . subst e;exact qc _
          . exact iD (oF ha) (k3 q (by omega))
        . rcases k4 with rfl|⟨_,_,k4⟩
          . exact ha
          . unfold hlt at*;omega
      . simp only [BS,LB,Nat.reduceLT,Nat.reduceEqDiff,ha]
        refine ee S (i:=0) rfl ?_
        clear S;intro h S
        simp only [LC]at S
        refine .inl ⟨rfl,_,⟨best,S1.rebase S,rfl,.inl k1,k2,fun q hq=>?_,k4⟩,S.fr,S.key_new⟩
        by_cases e:q=j
        . subst e;exact qZ ha
        . exact k3 q (by omega)
   refine fu (tg (vU S.ok q1 q2 (R.row.load1 (o:=0) rfl) (by omega) hi') hY (h:=h2) (F:=keys ((lb,.loop X)::(db,.dfr)::(bb,.row [.int .i64 (i:Nat)] 1)::B) []) g2.fr (fun b hb hlt=>?_) ⟨i,S',rfl,?_,qc _,fun q hq=>by omega,.inl rfl⟩) fun o rc h' y=>ir y ?_
   . have e1:=S'.key_own hb
     rintro(rfl|rfl|rfl)
     . rcases List.mem_cons.1 hb with e|hb
       . omega
       . rcases List.mem_cons.1 hb with e|hb
         . omega
         . rcases List.mem_cons.1 hb with e|hb
           . simp only []at e;omega
           . have:=(kb _ hb).1;omega
     . rcases List.mem_cons.1 hb with e|hb
       . omega
       . rcases List.mem_cons.1 hb with e|hb
         . omega
         . rcases List.mem_cons.1 hb with e|hb
           . simp only []at e;omega
           . have:=(kb _ hb).2;omega
     . have:=lt b (.inl rfl)
       rcases e1 with e1|e1
       . omega
       . have:=hK b e1;omega
   . rcases hi with hi|⟨hi,_⟩
     . exact .inl (by omega)
     . right;rw [hi]at pm;exact⟨pm.eq_nil,rfl⟩
   . rintro F ⟨best,T,rfl,k1,k2,k3,k4⟩
     rw [List.length_map,List.length_range]at k3
     subst hX
     refine⟨_,T.get m0,Nat.zero_ne_one,?_⟩
     replace T:=T.dead
     show Run _ _ _ _ _ _ _ _
     have lbest:=T.ld (b:=bb) (o:=0) m1 rfl
     have Rc:dP _ bh bl bm cap n l':=Rs.mo1 T.fr (nk hK)
     have km: ∀q,0<q->q<l'.length->(q-1)/4=i->hle (l'.getD best default) (l'.getD q default):=fun q q0 ql qe=>by
      have:=k3 (q-(4*i+1)) (by omega)
      rwa [show 4*i+1+(q-(4*i+1))=q by omega]at this
     have T0:=S0.rebase T
     have hK2: ∀c∈keys ((db,Ob.dfr)::(bb,.row [.int .i64 (best:Nat)] 1)::B) [],h0.n<=c:=fun c hc=>(T.key_own hc).elim (fun h=>by omega) (fun h=>hK c h)
     subst hd hB
     have T2:=T0.sub (L':=cD (db::dbs)++[(bf,Ob.row [.func (.func 254) #[ptrTo bh] #[]] 1)]) (G':=[]) (List.Sublist.cons_cons _ (List.sublist_cons_self _ _)) (List.Sublist.refl _)
     have hK3: ∀c∈keys (cD (db::dbs)++[(bf,Ob.row [.func (.func 254) #[ptrTo bh] #[]] 1)]) [],h0.n<=c:=fun c hc=>hK2 c (by simp only [keys,yf,xz,cD,xo,List.cons_append,xF]at hc⊢;rcases hc with h|h;exact .inl h;exact .inr (.inr h))
     by_cases e:best=i
     . subst e
       simp only [BS,LB,Nat.reduceLT,Nat.reduceEqDiff,Tryz.FFh2210,r1,lbest]
       have T3:=T2.base
       refine fF (jn (db::dbs) _ T3 fun h' T4=>⟨rfl,_,rfl,?_⟩)
       refine⟨(T2.fr.trans T4.fr fun c hc=>(T2.key_own hc).symm),l',Rc.mo1 T4.fr (nk hK3),pm,dn_done D km⟩
     . have e': ¬((best:Int)=(i:Int)):=by omega
       obtain⟨b0,be,bl'⟩:=k4.resolve_left e
       replace k1:=k1.resolve_right (fun h=>e h.2)
       simp only [BS,LB,Nat.reduceLT,Nat.reduceEqDiff,Tryz.FFh2210,r0,r1,lbest,e']
       refine step_ret (pt T2.ok Rc (i:=i) (k:=best) (by omega) k1) ?_
       rintro v h ⟨f,Rn⟩
       have lt2:=nk hK3
       have T3:=T2.step f (fun c hc=>.inl hc) (fun c hc hM=>lt2 c (.inr hM) hc)
       have f2:Mo (fun c=>c=bl\/c=bm) _ h:=f
       have lb2:h.load bb 0 1=some [.int .i64 (best:Nat)]:=by
        have hbb:h0.n<=bb:=hK2 bb (.tail _ m0)
        have:=f.get bb (bI f.ok0 lbest) (fun hM=>by have:=lt bb (.inr hM);omega)
        unfold Hp.load at lbest⊢
        rw [this];exact lbest
       simp only [BS,LB,Nat.reduceLT,Nat.reduceEqDiff,Tryz.FFh2210,lb2]
       exact ih best _ _ _ (by omega) ⟨db::dbs,_,rfl,T3,hK3,Rn,(pf l' (by omega) k1).trans pm,dn_step D b0 k1 be bl' km,.inl (by omega),by simp [aa,r0,ab],by simp [aa],by simp [aa,r4,ab]⟩
 . exact⟨[],l,rfl,S,fun c hc=>by simp [keys,cD]at hc;subst hc;exact n_bf,RR,.refl _,D,hi,by simp [aa,aQ,ab],by simp [aa,aQ,bU],by simp [aa,ab]⟩
end Go.Ab
end
section
namespace Go.Ab
theorem ip.push{f:Int->Option Value}{l:List Hd}(h:ip f l){x:Hd}(hx:x.id∉l.map Hd.id):ip (dG f x.id (some (.int .i64 l.length))) (l++[x]):=by
 refine⟨fun i hi=>?_,fun y v hy=>?_⟩
 . unfold dG
   simp at hi
   by_cases e:i=l.length
   . subst e
     have:(l++[x]).getD l.length default=x:=by simp [xc]
     rw [this,if_pos rfl]
   . rw [iT l _ (by omega),if_neg ?_]
     . exact h.1 i (by omega)
     . intro e2
       apply hx
       have hil:i<l.length:=by omega
       refine List.mem_map.2 ⟨l.getD i default,?_,by omega⟩
       rw [xc,xC hil]
       exact xX hil
 . unfold dG at hy
   by_cases e:y=x.id
   . refine⟨l.length,by simp,?_⟩
     have:(l++[x]).getD l.length default=x:=by simp [xc]
     rw [this];exact e
   . rw [if_neg e]at hy
     obtain⟨i,hi,e2⟩:=h.2 y v hy
     exact⟨i,by simp;omega,by rw [iT l _ hi];exact e2⟩
theorem ip.cut{f:Int->Option Value}{l:List Hd}(h:ip f l){m:Nat}(hm:l.length=m+1):ip (dG f (l.getD m default).id none) (l.take m):=by
 refine⟨fun i hi=>?_,fun y v hy=>?_⟩
 . rw [xE]at hi
   rw [getD_take l (by omega)]
   unfold dG
   rw [if_neg ?_]
   . exact h.1 i (by omega)
   . intro e
     have:=h.inj (i:=i) (j:=m) (by omega) (by omega) (by omega)
     omega
 . unfold dG at hy
   by_cases e:y=(l.getD m default).id
   . rw [if_pos e]at hy;cases hy
   . rw [if_neg e]at hy
     obtain⟨i,hi,e2⟩:=h.2 y v hy
     have:i≠m:=fun e3=>by subst e3;exact e e2
     exact⟨i,by rw [xE];omega,by rw [getD_take l (by omega)];exact e2⟩
theorem ip.setKey{f:Int->Option Value}{l:List Hd}(h:ip f l){i:Nat}(k:Int):ip f (l.set i ⟨(l.getD i default).id,k⟩):=by
 have e: ∀j,((l.set i ⟨(l.getD i default).id,k⟩).getD j default).id=(l.getD j default).id:=fun j=>by
  rw [im]
  split
  . rename_i e;rw [e.1]
  . rfl
 refine⟨fun j hj=>?_,fun y v hy=>?_⟩
 . rw [e];exact h.1 j (by rwa [xg]at hj)
 . obtain⟨j,hj,e2⟩:=h.2 y v hy
   exact⟨j,by rwa [xg],by rw [e];exact e2⟩
theorem idxF_nil:ip (fun _=>none) []:=⟨fun i hi=>by simp at hi,fun x v h=>by cases h⟩
theorem c7.take{cs:List Value}{cap:Nat}{l:List Hd}(c:c7 cs cap l)(m:Nat):c7 cs cap (l.take m):=
 ⟨c.len,xw (by rw [xE];omega) c.le,fun i hi=>by
  rw [xE]at hi
  rw [getD_take l (by omega)]
  exact c.at0 i (by omega)⟩
theorem c7.push{cs cs':List Value}{cap cap':Nat}{l:List Hd}(c:c7 cs cap l){x:Hd}(hl:cs'.length=cap'*2)(hc:l.length<cap')(h1: ∀j,j<l.length*2->cs'[j]? =cs[j]?)(h2:cs'[l.length*2]? =some (.int .i64 x.id)/\cs'[l.length*2+1]? =some (.int .i64 x.key)):c7 cs' cap' (l++[x]):=by
 refine⟨hl,by simp;omega,fun i hi=>?_⟩
 simp at hi
 by_cases e:i=l.length
 . subst e
   have:(l++[x]).getD l.length default=x:=by simp [xc]
   rw [this];exact h2
 . rw [iT l _ (by omega),h1 _ (by omega),h1 _ (by omega)]
   exact c.at0 i (by omega)
theorem slice_hi{E:Env}{t e:TypeId}{b k len cap n:Nat}{kd:IntKind}(hu:E.und t=some (.slice e))(hs:E.sz e=some k)(hn:n<=cap):eA E t (.slice (some ⟨b,0,some k⟩) len cap) none (some (.int kd (n:Int))) none=some (.slice (some ⟨b,0,some k⟩) n cap):=by
 have nat: ∀n:Nat,fg (n:Int)=some n:=fun n=>rfl
 simp only [eA,hu,dX,dS,nat,xi hn,cond_true,hs,xR,cond_false,Nat.sub_zero,xI,Nat.add_zero,ya]
 cases xS cap 0<;>rfl
section
variable{M:Nat->Prop}{h0 h:Hp}{L:List (Nat×Ob)}{G:List GL}{E:Env}{t tx e:TypeId}{by_:Nat}{zs:List Value}
theorem St.appH{bl cap:Nat}{cs:List Value}{l:List Hd}(S:St M h0 h ((bl,.row cs 1)::L) G)(C:c7 cs cap l)(hu:E.und t=some (.slice e))(he:dJ E e by_ 2 zs)(hb:0<by_)(hb2:by_<=100)(hx:av E tx=some false){x:Hd}{xv:Value}(hsrc:aO h 2 xv=some (1,iN x))(hl:l.length<1000000){ts:List TypeId}:
 ∃h' w,cU E h (t::tx::ts) (.slice (some ⟨bl,0,some 2⟩) l.length cap) xv=some (h',w)/\ ∃bl' cap' cs',w=.slice (some ⟨bl',0,some 2⟩) (l.length+1) cap'/\St M h0 h' ((bl',.row cs' 1)::L) G/\c7 cs' cap' (l++[x])/\(bl'=bl\/h.n<=bl'):=by
 obtain⟨⟨i,hi,rfl,hsz⟩,hz,hl2⟩:=he
 have hr:Row h bl cs 1:=S.row m0
 have clen:=C.len
 by_cases hc:l.length+1<=cap
 . obtain⟨y,h1,h2⟩:=hr.store S.ok ono (o:=l.length*2) (vs:=iN x) (by rw [iz];omega) rfl
   refine⟨h.put bl y,_,?_,bl,cap,_,rfl,S.put (i:=0) rfl h2,?_,.inl rfl⟩
   . simp only [cU,hx,iK,hu,hi,hsz,hsrc]
     unfold dW
     rw [xi hc]
     simp only [cond_true,iN,hsz,xy]
     unfold iN at h1
     rw [h1]
   . refine C.push (by rw [lc (by rw [iz];omega)];exact clen) (by omega) (fun j hj=>?_) ⟨?_,?_⟩
     . rw [gT (by rw [iz];omega),if_neg (by omega)]
     . rw [gT (by rw [iz];omega),if_pos ⟨xL _,by rw [iz];omega⟩,yz];rfl
     . rw [gT (by rw [iz];omega),if_pos ⟨by omega,by rw [iz];omega⟩,yl];rfl
 . have ecap:cap=l.length:=by have:=C.le;omega
   obtain⟨tr,el,hget,hsz',htr⟩:=hr
   have hgt:iQ tr cs.length 0 (l.length*2) (iN x)=some (tr.pushAll cs.length (iN x),cs.length+2):=by
    unfold iQ
    rw [show l.length*2=cs.length by omega,ya,ya];rfl
   have T:=S.dead.new (x:=.cells (tr.pushAll cs.length (iN x)) (cs.length+2) e 1) (o:=.row (cs++iN x) 1) (by
    refine⟨tr.pushAll cs.length (iN x),e,?_,?_,fun n=>?_⟩
    . rw [Hp.get_new _ _ S.dead.ok,if_pos rfl,xj];rfl
    . rw [xj];exact Tr.sized_pushAll _ hsz'
    . rw [Tr.get_pushAll _ _ _ hsz',yc]
      split
      . exact htr n
      . rfl)
   refine⟨_,.slice (some ⟨h.n,0,some 2⟩) (l.length+1) (l.length+1),?_,h.n,l.length+1,_,rfl,T,?_,.inr (xL _)⟩
   . simp only [cU,hx,iK,hu,hi,hsz,hsrc]
     unfold dW
     have hcap:yh (l.length+1) cap=false:=by
      cases hx:yh (l.length+1) cap with
      |false=>rfl
      |true=>exact absurd (lbt hx) (by omega)
     rw [hcap]
     simp only [cond_false]
     have hguard:(yh ((l.length+1)*(i.bytes+1)) 70368744177664&&Nat.blt 0 i.bytes)=true:=by
      have:(l.length+1)*(i.bytes+1)<=1000000*101:=Nat.mul_le_mul (by omega) (by omega)
      rw [xi (by omega)]
      simp only [Bool.true_and]
      rw [yv];exact hb
     have hzl:xS zs.length i.size=true:=by rw [hl2,hsz];rfl
     rw [hguard,hz]
     simp only [cond_true,hzl]
     unfold k9
     simp only [hget,hsz,hgt]
     rfl
   . refine C.push (by rw [xj,iz];omega) (by omega) (fun j hj=>?_) ⟨?_,?_⟩
     . rw [xP (by omega)]
     . rw [xK (by omega),show l.length*2-cs.length=0 by omega];rfl
     . rw [xK (by omega),show l.length*2+1-cs.length=1 by omega];rfl
theorem St.appH0(S:St M h0 h L G)(hu:E.und t=some (.slice e))(he:dJ E e by_ 2 zs)(hb:0<by_)(hb2:by_<=100)(hx:av E tx=some false){x:Hd}{xv:Value}(hsrc:aO h 2 xv=some (1,iN x)){ts:List TypeId}:
 ∃h' w,cU E h (t::tx::ts) (.slice none 0 0) xv=some (h',w)/\ ∃bl' cap' cs',w=.slice (some ⟨bl',0,some 2⟩) 1 cap'/\St M h0 h' ((bl',.row cs' 1)::L) G/\c7 cs' cap' [x]/\h.n<=bl':=by
 obtain⟨⟨i,hi,rfl,hsz⟩,hz,hl2⟩:=he
 have T:=S.new (x:=.cells (Tr.ofList (iN x)) 2 e 1) (o:=.row (iN x) 1) (lj S.ok (iN x) e 1)
 refine⟨_,.slice (some ⟨h.n,0,some 2⟩) 1 1,?_,h.n,1,_,rfl,T,⟨rfl,by simp,fun i hi=>?_⟩,xL _⟩
 . simp only [cU,hx,iK,hu,hi,hsz,hsrc]
   unfold dW
   have hcap:yh (0+1) 0=false:=rfl
   rw [hcap]
   simp only [cond_false]
   have hguard:(yh ((0+1)*(i.bytes+1)) 70368744177664&&Nat.blt 0 i.bytes)=true:=by
    rw [xi (by omega)]
    simp only [Bool.true_and]
    rw [yv];exact hb
   have hzl:xS zs.length i.size=true:=by rw [hl2,hsz];rfl
   rw [hguard,hz]
   simp only [cond_true,hzl]
   unfold k9
   rw [show xS 0 0=true from rfl,hsz]
   rfl
 . have:i=0:=by simpa using hi
   subst this;exact⟨rfl,rfl⟩
theorem St.rowS{bh bl bm n cap c:Nat}{N:Int}{cs:List Value}{es:List (Value×Value×Nat)}{l:List Hd}{f:Int->Option Value}(S:St M h0 h [(bl,.row cs 1),(bh,.row [.slice (some ⟨bl,0,some 2⟩) n cap,.map (some bm),.int .i64 N] 1),(bm,.map es c)] [])(C:c7 cs cap l)(hn:n=l.length)(MI:dh es c f)(IF:ip f l):dP h bh bl bm cap N l:=by
 subst hn
 have ap:=S.apart
 simp only [keys,xo,yB,yf,xz,xG,xF,xY,or_false,not_or]at ap
 exact⟨S.row m1,⟨cs,es,c,f,S.row m0,(S.own _ m2).2,C,MI,IF⟩,fun e=>ap.1.1 e.symm,ap.2.1,ap.1.2⟩
end
theorem wE{ρ:Operand->Value}{b:Bool}{t:TypeId}{a v:Operand}{h h':Hp}:bK ρ b (.store t a v) h h'=(match ρ a with| .pointer (some a)=>some (.blk a.block)|_=>none):=by
 simp only [bK,cV,gQ,dB,touch,cond_false]
 cases ρ a<;>first|rfl|(rename_i x;cases x<;>rfl)
theorem sX{ρ:Operand->Value}{b:Bool}{x:Operand}{ts:Array TypeId}{h h':Hp}:bK ρ b (.call ⟨.builtin .len,#[x],ts⟩) h h'=(match ρ x with| .map (some r)=>some (.blk r)| .slice (some a) _ _=>some (.blk a.block)|_=>none):=by
 simp only [bK,cV,gQ,dB,touch,cond_false]
 cases ρ x<;>first|rfl|(rename_i x;cases x<;>rfl)|(rename_i x _ _;cases x<;>rfl)
theorem dn_del{E:Env}{cx:Cx}{Q:dI}{a:List Oper}{q:Nat}{ps:List (Nat×Nat)}{o:Oper}{os:List Oper}{i:Nat}{k:List Fr}{l:Loc}{tf:Hp->List (Nat×Tch)}{h:Hp}{t:TypeId}{m key:Value}{P:Hp->Prop}(hx: ∃h',jB E h t m key=some h'/\P h')
 (hk: ∀h',P h'->Run E (lim E) cx Q (.opsD a q ps os (i+1) (tf h')::k) .normal (l.put o.dst (.tuple #[])) h'):DN E cx Q a q ps o os i k l tf (delR E h t m key):=by
 obtain⟨h',e,hp⟩:=hx
 unfold delR
 rw [e]
 exact hk h' hp
structure cj(h:Hp)(F:List Nat)(p:Value)(N:Nat)(K:Nat->Option Int):Prop where
 ex: ∃bh bm l,p=ptrTo bh/\ju l/\eZ l K/\(∀x∈l,x.id<N)/\
  ((l=[]/\F=[bh,bm]/\bh≠bm/\Row h bh [.slice none 0 0,.map (some bm),.int .i64 N] 1/\ ∃es c,h.get bm=some (.map es c)/\dh es c (fun _=>none))\/ ∃bl cap,F=[bh,bl,bm]/\dP h bh bl bm cap N l)
theorem cj.mo{M:Nat->Prop}{h h':Hp}{F:List Nat}{p:Value}{N:Nat}{K:Nat->Option Int}(a:cj h F p N K)(g:Mo M h h')(hm: ∀b∈F,¬M b):cj h' F p N K:=by
 obtain⟨bh,bm,l,e,h1,h2,h3,h4⟩:=a.ex
 refine⟨bh,bm,l,e,h1,h2,h3,?_⟩
 rcases h4 with⟨k1,rfl,k3,k4,es,c,k5,k6⟩|⟨bl,cap,rfl,k⟩
 . exact .inl ⟨k1,rfl,k3,g.has (o:=.row _ 1) k4 (hm _ (by simp)),es,c,g.has (o:=.map es c) k5 (hm _ (by simp)),k6⟩
 . exact .inr ⟨bl,cap,rfl,k.mo g (hm _ (by simp)) (hm _ (by simp)) (hm _ (by simp))⟩
theorem cj.gr{h h':Hp}{F:List Nat}{p:Value}{N:Nat}{K:Nat->Option Int}(a:cj h F p N K)(g:Gr h h'):cj h' F p N K:=a.mo (M:=NoM) g.fr (fun _ _ h=>h)
theorem cj.lt{h:Hp}(ok:h.t.Sized h.n){F:List Nat}{p:Value}{N:Nat}{K:Nat->Option Int}(a:cj h F p N K): ∀b∈F,b<h.n:=by
 obtain⟨bh,bm,l,e,h1,h2,h3,h4⟩:=a.ex
 rcases h4 with⟨k1,rfl,k3,k4,es,c,k5,k6⟩|⟨bl,cap,rfl,k⟩
 . intro b hb
   simp at hb
   rcases hb with rfl|rfl
   . exact k4.lt ok
   . exact eJ ok k5
 . intro b hb
   simp at hb
   exact k.lt ok b hb
theorem qf{l:List Hd}{K:Nat->Option Int}(h:eZ l K){N:Nat}(hN: ∀x∈l,x.id<N):l.length<=N:=by
 have:=nj N (l.map Hd.id) h.1 (fun x hx=>by obtain⟨y,hy,rfl⟩:=List.mem_map.1 hx;exact hN y hy)
 simpa using this
end Go.Ab

end
section
namespace Go.Ab
open Go.Proofs
set_option maxRecDepth 10000
open Tryz in
def Tryz.FFh3129:=aj a1<|aj s1<|aj z1<|aj n1<|aj u3<|aj a3<|aj s3<|aj z3<|aj i3<|aj u198<|aj a198<|aj s198<|aj z198<|aj q198<|aj i198<|aj n198<|aj u242<|aj a242<|aj s242<|aj z242<|aj n242<|aj u264<|aj a264<|aj s264<|aj z264<|aj q264<|aj n264<|aj a266<|aj s266<|aj z266<|aj i266<|aj n266<|aj p266<|aj ff266<|aj d266<|aj a268<|aj s268<|aj z268<|aj i268<|aj n268<|aj p268<|aj ff268<|aj d268<|aj a274<|aj s274<|aj z274<|aj i274<|aj n274<|aj p274<|aj ff274<|d274
open Tryz in
def Tryz.FFh3208:=aj a1<|aj s1<|aj z1<|aj n1<|aj u2<|aj a2<|aj s2<|aj z2<|aj i2<|aj u3<|aj a3<|aj s3<|aj z3<|aj i3<|aj u4<|aj a4<|aj s4<|aj z4<|aj n4<|aj u198<|aj a198<|aj s198<|aj z198<|aj q198<|aj i198<|aj n198<|aj u242<|aj a242<|aj s242<|aj z242<|aj n242<|aj u264<|aj a264<|aj s264<|aj z264<|aj q264<|aj n264<|aj a266<|aj s266<|aj z266<|aj i266<|aj n266<|aj p266<|aj ff266<|aj d266<|aj a268<|aj s268<|aj z268<|aj i268<|aj n268<|aj p268<|aj ff268<|aj d268<|aj a274<|aj s274<|aj z274<|aj i274<|aj n274<|aj p274<|aj ff274<|d274
open Tryz in
def Tryz.FFh3205:=aj a1<|aj s1<|aj z1<|aj n1<|aj u2<|aj a2<|aj s2<|aj z2<|aj i2<|aj u3<|aj a3<|aj s3<|aj z3<|aj i3<|aj u4<|aj a4<|aj s4<|aj z4<|aj n4<|aj u5<|aj a5<|aj s5<|aj z5<|aj i5<|aj u6<|aj a6<|aj s6<|aj z6<|aj i6<|aj u198<|aj a198<|aj s198<|aj z198<|aj q198<|aj i198<|aj n198<|aj u242<|aj a242<|aj s242<|aj z242<|aj n242<|aj u264<|aj a264<|aj s264<|aj z264<|aj q264<|aj n264<|aj a266<|aj s266<|aj z266<|aj i266<|aj n266<|aj p266<|aj ff266<|aj d266<|aj a268<|aj s268<|aj z268<|aj i268<|aj n268<|aj p268<|aj ff268<|aj d268<|aj a274<|aj s274<|aj z274<|aj i274<|aj n274<|aj p274<|aj ff274<|d274
open Tryz in
def Tryz.FFh3207:=aj a1<|aj s1<|aj z1<|aj n1<|aj u2<|aj a2<|aj s2<|aj z2<|aj i2<|aj u3<|aj a3<|aj s3<|aj z3<|aj i3<|aj u4<|aj a4<|aj s4<|aj z4<|aj n4<|aj u5<|aj a5<|aj s5<|aj z5<|aj i5<|aj u6<|aj a6<|aj s6<|aj z6<|aj i6<|aj a7<|aj s7<|aj z7<|aj i7<|aj n7<|aj p7<|aj ff7<|aj d7<|aj a8<|aj s8<|aj z8<|aj i8<|aj n8<|aj p8<|aj ff8<|aj d8<|aj u9<|aj a9<|aj s9<|aj z9<|aj n9<|aj u55<|aj a55<|aj s55<|aj z55<|aj i55<|aj u198<|aj a198<|aj s198<|aj z198<|aj q198<|aj i198<|aj n198<|aj u242<|aj a242<|aj s242<|aj z242<|aj n242<|aj u264<|aj a264<|aj s264<|aj z264<|aj q264<|aj n264<|aj a266<|aj s266<|aj z266<|aj i266<|aj n266<|aj p266<|aj ff266<|aj d266<|aj a268<|aj s268<|aj z268<|aj i268<|aj n268<|aj p268<|aj ff268<|aj d268<|aj a274<|aj s274<|aj z274<|aj i274<|aj n274<|aj p274<|aj ff274<|d274
open Tryz in
def Tryz.FFh3206:=aj a1<|aj s1<|aj z1<|aj n1<|aj u2<|aj a2<|aj s2<|aj z2<|aj i2<|aj u3<|aj a3<|aj s3<|aj z3<|aj i3<|aj u4<|aj a4<|aj s4<|aj z4<|aj n4<|aj u5<|aj a5<|aj s5<|aj z5<|aj i5<|aj u6<|aj a6<|aj s6<|aj z6<|aj i6<|aj a7<|aj s7<|aj z7<|aj i7<|aj n7<|aj p7<|aj ff7<|aj d7<|aj a8<|aj s8<|aj z8<|aj i8<|aj n8<|aj p8<|aj ff8<|aj d8<|aj u9<|aj a9<|aj s9<|aj z9<|aj n9<|aj u10<|aj a10<|aj s10<|aj z10<|aj n10<|aj u11<|aj a11<|aj s11<|aj z11<|aj n11<|aj u12<|aj a12<|aj s12<|aj z12<|aj i12<|aj u55<|aj a55<|aj s55<|aj z55<|aj i55<|aj u198<|aj a198<|aj s198<|aj z198<|aj q198<|aj i198<|aj n198<|aj u242<|aj a242<|aj s242<|aj z242<|aj n242<|aj u264<|aj a264<|aj s264<|aj z264<|aj q264<|aj n264<|aj a266<|aj s266<|aj z266<|aj i266<|aj n266<|aj p266<|aj ff266<|aj d266<|aj a268<|aj s268<|aj z268<|aj i268<|aj n268<|aj p268<|aj ff268<|aj d268<|aj a274<|aj s274<|aj z274<|aj i274<|aj n274<|aj p274<|aj ff274<|d274
theorem qU{h0:Hp}(ok:h0.t.Sized h0.n){N:Nat}:Ret xd 129 [.int .i64 N] h0 fun v h'=>Gr h0 h'/\ ∃F,cj h' F v N (fun _=>none)/\ ∀b∈F,h0.n<=b:=by
 have S:=Si ok
 have mx:max (N:Int) 0=(N:Int):=by omega
 refine ac (n:=9) (rs:=[.tmp 2]) rfl Tryz.e129 rfl rfl rfl (lbt rfl) ?_
 simp only [BS]
 refine ag rG S ?_;clear S;intro h bm S n_bm
 simp only [BS,LB,Nat.reduceLT,Nat.reduceEqDiff,Nat.reduceAdd,Nat.reduceLeDiff,Tryz.FFh3129,mx]
 refine ag (bR (by intro x e;cases e)) S ?_;clear S;intro h b S n_b;simp only [ah]at S
 simp only [BS,LB,ae,Nat.reduceLT,Nat.reduceEqDiff]
 have ap:=S.apart
 simp only [keys,xo,yB,yf,xz,xG,xF,xY,or_false]at ap
 refine⟨S.gr,[b,bm],⟨b,bm,[],rfl,fun j _ hj=>(by simp at hj),cont_nil,fun x hx=>(by cases hx),.inl ⟨rfl,rfl,ap.1,S.row m0,[],0,(S.own _ m1).2,uq⟩⟩,fun c hc=>?_⟩
 simp at hc
 rcases hc with rfl|rfl
 . exact n_b
 . exact n_bm
section
variable{h0:Hp}{F:List Nat}{p:Value}{N:Nat}{K:Nat->Option Int}
theorem qv(ok:h0.t.Sized h0.n)(H:cj h0 F p N K): ∃m:Nat,bA xd 208 [p] h0 (.int .i64 m)/\(m=0↔ ∀v,K v=none):=by
 obtain⟨bh,bm,l,rfl,ho,hc,hN,hx⟩:=H.ex
 refine⟨l.length,?_,?_⟩
 . have S:=Si ok
   obtain⟨a,n,c,m1,m2,hr,hn⟩: ∃a n c m1 m2,Row h0 bh [.slice a n c,m1,m2] 1/\n=l.length:=by
    rcases hx with⟨rfl,_,_,hr,_⟩|⟨bl,cap,_,hr⟩
    . exact⟨_,_,_,_,_,hr,rfl⟩
    . exact⟨_,_,_,_,_,hr.row,rfl⟩
   subst hn
   have l0:=hr.load1 (o:=0) rfl
   refine ac (n:=11) (rs:=[.tmp 2]) rfl Tryz.e208 rfl rfl rfl (lbt rfl) ?_
   simp only [BS,LB,ae,Nat.reduceLT,Nat.reduceEqDiff,Tryz.FFh3208,l0]
   exact S.gr
 . constructor
   . intro e
     rw [List.length_eq_zero_iff.1 e]at hc
     exact hc.nil
   . intro e
     cases l with
     |nil=>rfl
     | cons x l=>
       have:=(hc.2 x.id x.key).2 (by simp)
       rw [e]at this;cases this
theorem qy (ok:h0.t.Sized h0.n) (H:cj h0 F p N K) {v:Nat}:bA xd 205 [p,.int .i64 v] h0 (.tuple #[.int .i64 ((K v).getD 0),.bool (K v).isSome]):=by
 have S:=Si ok
 obtain⟨m,hlen,hm⟩:=qv ok H
 obtain⟨bh,bm,l,rfl,ho,hc,hN,hx⟩:=H.ex
 by_cases h0':m=0
 . subst h0'
   have e:=hm.1 rfl v
   rw [e]
   refine ac (n:=32) (rs:=[.tmp 4,.tmp 5]) rfl Tryz.e205 rfl rfl rfl (lbt rfl) ?_
   simp only [BS,LB,Nat.reduceLT,Nat.reduceEqDiff]
   refine aq (hlen) ?_;intro h g;replace S:=S.call g;clear g
   simp only [BS,LB,ae,Nat.reduceLT,Nat.reduceEqDiff,xu]
   exact⟨rfl,S.gr⟩
 . have hm0: ¬((m:Int)=0):=by omega
   rcases hx with⟨rfl,_⟩|⟨bl,cap,_,R⟩
   . exact absurd (hm.2 hc.nil) h0'
   . refine ac (n:=32) (rs:=[.tmp 4,.tmp 5]) rfl Tryz.e205 rfl rfl rfl (lbt rfl) ?_
     simp only [BS,LB,Nat.reduceLT,Nat.reduceEqDiff]
     refine aq (hlen) ?_;intro h g;replace S:=S.call g;replace R:=R.gr g;clear g
     obtain⟨cs,es,c,f,hcs,hmp,C,MI,IF⟩:=R.ex
     have r0:=R.row.load1 (o:=0) rfl
     have r1:=R.row.load1 (o:=1) rfl
     have lk:=nI (x:=(v:Int)) xB xM (z:=.int .i64 0) (by kernel_rfl) hmp MI
     cases hk:K v with
     | none=>
       have fv:f v=none:=by
        cases hf:f v with
        |none=>rfl
        | some w=>
          obtain⟨i,hi,e⟩:=IF.2 v w hf
          have:=hc.at hi
          rw [show(l.getD i default).id=v by omega,hk]at this;cases this
       rw [fv]at lk
       simp only [BS,LB,ae,Nat.reduceLT,Nat.reduceEqDiff,Tryz.FFh3205,hm0,r1,lk,yk,xR]
       exact S.gr
     | some k=>
       obtain⟨i,hi,e⟩:=hc.idx hk
       have fv:f v=some (.int .i64 i):=by have:=IF.1 i hi;rwa [e]at this
       rw [fv]at lk
       have l1:=C.ld1 hcs hi
       rw [e]at l1
       simp only [BS,LB,ae,Nat.reduceLT,Nat.reduceEqDiff,Tryz.FFh3205,hm0,r0,r1,lk,Option.getD_some,hi,l1]
       exact S.gr
theorem mC(ok:h0.t.Sized h0.n)(H:cj h0 F p N K){v:Nat}(hv:v<N)(hN:N<=1000)(hk:K v=none){k:Int}:
 Ret xd 207 [p,.int .i64 v,.int .i64 k] h0 fun r h'=>Mo (· ∈F) h0 h'/\ ∃F',cj h' F' p N (bV K v (some k))/\ ∀b∈F',b∈F\/h0.n<=b:=by
 obtain⟨bh,bm,l,rfl,ho,hc,hlt,hx⟩:=H.ex
 have hll:=qf hc hlt
 have c1: ¬((v:Int)<0):=by omega
 have c2: ¬((N:Int)<=(v:Int)):=by omega
 have hn:=hc.free hk
 rcases hx with⟨rfl,rfl,hne,hr,es,c,hmp,MI⟩|⟨bl,cap,rfl,R⟩
 . have S:=St.init2 (M:=(· ∈[bh,bm])) ok (o1:=.row _ 1) (o2:=.map es c) hr hmp hne (by simp) (by simp)
   have lk:=nI (x:=(v:Int)) xB xM (z:=.int .i64 0) (by kernel_rfl) hmp MI
   refine ac (n:=71) (rs:=[.tmp 6]) rfl Tryz.e207 rfl rfl rfl (lbt rfl) ?_
   simp only [BS,LB,Nat.reduceLT,Nat.reduceEqDiff,Tryz.FFh3207,lk,c1,c2,yk,xR,S.ld (b:=bh) (o:=1) m0 rfl,S.ld (b:=bh) (o:=2) m0 rfl]
   refine aA (aI rfl) (q:=0) (ps:=[]) (by kernel_rfl) ?_
   simp only [BS,LB,cls,Nat.reduceLT,Nat.reduceEqDiff,Nat.reduceAdd,Nat.reducePow,Nat.reduceDiv,Nat.reduceMod,Nat.reduceLeDiff,xu,Tryz.FFh3207,S.ld (b:=bh) (o:=0) m0 rfl,S.ld (b:=bh) (o:=1) m0 rfl]
   refine dV (S.mputI (i:=1) rfl xB xM MI _) ?_
   clear S;rintro h ⟨_,es',c',MI',S⟩
   simp only [LC]at S
   simp only [BS,LB,Nat.reduceLT,Nat.reduceEqDiff,Nat.reduceAdd,Tryz.FFh3207,S.ld (b:=bh) (o:=0) m0 rfl,S.ld (b:=bh) (o:=1) m0 rfl]
   refine ag (bW (by exact yn) (by exact yw) (by decide) (by rfl)) S ?_;clear S;intro h bs S n_bs;simp only [LC,aP,bj,ah,Nat.reduceMul,Nat.reduceAdd,xI,xy,xA,xV]at S
   simp only [BS,LB,Nat.reduceLT,Nat.reduceEqDiff,S.ld (b:=bh) (o:=0) m1 rfl,S.ld (b:=bh) (o:=1) m1 rfl]
   have src:aO h 2 (.slice (some ⟨bs,0,none⟩) 1 1)=some (1,iN ⟨v,k⟩):=by simp only [aO];rw [S.lds (b:=bs) (o:=0) (n:=1*2) m0 (lbt rfl)];rfl
   replace S:=S.drop1
   refine e6 (S.appH0 yn yw (by decide) (by decide) Tryz.n264 src) ?_
   clear S src;rintro h w ⟨bl,cap,cs,rfl,S,C,hbl⟩
   simp only [BS,LB,Nat.reduceLT,Nat.reduceEqDiff,Tryz.FFh3207]
   refine az (aB S (i:=1) rfl ?_ ?_ ?_ ono) ?_
   . exact(by simp only [Tryz.FFh3207])
   . exact(by exact cy)
   . exact xm (lbt rfl)
   clear S;rintro h ⟨S,mo⟩;clear mo;simp only [LC,ah,lay,xq,xt,Nat.reduceAdd]at S
   simp only [BS]
   refine aA (aI rfl) (q:=0) (ps:=[]) (by kernel_rfl) ?_
   simp only [BS,LB,cls,Nat.reduceLT,Nat.reduceEqDiff,Nat.reduceAdd,Nat.reducePow,Nat.reduceDiv,Nat.reduceMod,Nat.reduceLeDiff,Int.reduceSub,xu,Tryz.FFh3207,S.ld (b:=bh) (o:=0) m1 rfl,S.ld (b:=bh) (o:=1) m1 rfl]
   have R:dP h bh bl bm cap N ([]++[⟨v,k⟩]):=S.rowS C rfl MI' (idxF_nil.push hn)
   have w0:ao .i64 0=((0:Nat):Int):=rfl
   rw [w0]
   refine dc (up_ok S.ok R (i:=0) (by simp) (by simp) (sE ho ⟨v,k⟩)) ?_
   have own0:=(S.own _ m0).1
   rintro r h ⟨f,l',R',pm,ho'⟩
   simp only [BS,LB,Nat.reduceLT,Nat.reduceAdd,xu]
   refine⟨S.fr.trans f (fun c hc=>?_),[bh,bl,bm],⟨bh,bm,l',rfl,ho',(hc.push hk k).perm pm,fun x hx=>?_,.inr ⟨bl,cap,rfl,R'⟩⟩,fun b hb=>?_⟩
   . rcases hc with rfl|rfl
     . exact own0.symm
     . exact .inl (by simp)
   . have:=pm.mem_iff.1 hx
     simp at this;subst this;exact hv
   . simp at hb
     rcases hb with rfl|rfl|rfl
     . exact .inl (by simp)
     . exact own0.symm
     . exact .inl (by simp)
 . obtain⟨cs,es,c,f,hcs,hmp,C,MI,IF⟩:=R.ex
   have S:=St.init3 (M:=(· ∈[bh,bl,bm])) ok (o1:=.row cs 1) (o2:=.row _ 1) (o3:=.map es c) hcs R.row hmp R.ne.1.symm R.ne.2.2 R.ne.2.1 (by simp) (by simp) (by simp)
   have lk:=nI (x:=(v:Int)) xB xM (z:=.int .i64 0) (by kernel_rfl) hmp MI
   have fv:f v=none:=by
    cases hf:f v with
    |none=>rfl
    | some w=>
      obtain⟨i,hi,e⟩:=IF.2 v w hf
      have:=hc.at hi
      rw [show(l.getD i default).id=v by omega,hk]at this;cases this
   rw [fv]at lk
   refine ac (n:=71) (rs:=[.tmp 6]) rfl Tryz.e207 rfl rfl rfl (lbt rfl) ?_
   simp only [BS,LB,Nat.reduceLT,Nat.reduceEqDiff,Tryz.FFh3207,lk,c1,c2,yk,xR,S.ld (b:=bh) (o:=1) m1 rfl,S.ld (b:=bh) (o:=2) m1 rfl]
   refine aA (aI rfl) (q:=0) (ps:=[]) (by kernel_rfl) ?_
   simp only [BS,LB,cls,Nat.reduceLT,Nat.reduceEqDiff,Nat.reduceAdd,Nat.reducePow,Nat.reduceDiv,Nat.reduceMod,Nat.reduceLeDiff,Tryz.FFh3207,S.ld (b:=bh) (o:=0) m1 rfl,S.ld (b:=bh) (o:=1) m1 rfl]
   refine dV (S.mputI (i:=2) rfl xB xM MI _) ?_
   clear S;rintro h ⟨_,es',c',MI',S⟩
   simp only [LC]at S
   simp only [BS,LB,Nat.reduceLT,Nat.reduceEqDiff,Nat.reduceAdd,Tryz.FFh3207,S.ld (b:=bh) (o:=0) m1 rfl,S.ld (b:=bh) (o:=1) m1 rfl]
   refine ag (bW (by exact yn) (by exact yw) (by decide) (by rfl)) S ?_;clear S;intro h bs S n_bs;simp only [LC,aP,bj,ah,Nat.reduceMul,Nat.reduceAdd,xI,xy,xA,xV]at S
   simp only [BS,LB,Nat.reduceLT,Nat.reduceEqDiff,S.ld (b:=bh) (o:=0) m2 rfl,S.ld (b:=bh) (o:=1) m2 rfl]
   have src:aO h 2 (.slice (some ⟨bs,0,none⟩) 1 1)=some (1,iN ⟨v,k⟩):=by simp only [aO];rw [S.lds (b:=bs) (o:=0) (n:=1*2) m0 (lbt rfl)];rfl
   replace S:=S.drop1
   refine e6 (S.appH C yn yw (by decide) (by decide) Tryz.n264 src (by omega)) ?_
   clear S src;rintro h w ⟨bl',cap',cs',rfl,S,C',hbl⟩
   simp only [BS,LB,Nat.reduceLT,Nat.reduceEqDiff,Tryz.FFh3207]
   refine az (aB S (i:=1) rfl ?_ ?_ ?_ ono) ?_
   . exact(by simp only [Tryz.FFh3207])
   . exact(by exact cy)
   . exact xm (lbt rfl)
   clear S;rintro h ⟨S,mo⟩;clear mo;simp only [LC,ah,lay,xq,xt,Nat.reduceAdd]at S
   simp only [BS]
   refine aA (aI rfl) (q:=0) (ps:=[]) (by kernel_rfl) ?_
   have w0:ao .i64 (((l.length+1:Nat):Int)-1)=((l.length:Nat):Int):=by rw [wrap64]<;>omega
   simp only [BS,LB,cls,Nat.reduceLT,Nat.reduceEqDiff,Nat.reduceAdd,Nat.reducePow,Nat.reduceDiv,Nat.reduceMod,Nat.reduceLeDiff,Tryz.FFh3207,w0,S.ld (b:=bh) (o:=0) m1 rfl,S.ld (b:=bh) (o:=1) m1 rfl]
   have R:dP h bh bl' bm cap' N (l++[⟨v,k⟩]):=S.rowS C' (by simp) MI' (IF.push hn)
   refine dc (up_ok S.ok R (i:=l.length) (by simp) (by simp;omega) (sE ho ⟨v,k⟩)) ?_
   have own0:=(S.own _ m0).1
   rintro r h ⟨f,l',R',pm,ho'⟩
   simp only [BS,LB,Nat.reduceLT,Nat.reduceAdd]
   refine⟨S.fr.trans f (fun c hc=>?_),[bh,bl',bm],⟨bh,bm,l',rfl,ho',(hc.push hk k).perm pm,fun x hx=>?_,.inr ⟨bl',cap',rfl,R'⟩⟩,fun b hb=>?_⟩
   . rcases hc with rfl|rfl
     . exact own0.symm
     . exact .inl (by simp)
   . have:=pm.mem_iff.1 hx
     simp at this
     rcases this with h|rfl
     . exact hlt x h
     . exact hv
   . simp at hb
     rcases hb with rfl|rfl|rfl
     . exact .inl (by simp)
     . exact own0.symm
     . exact .inl (by simp)
theorem oz(ok:h0.t.Sized h0.n)(H:cj h0 F p N K){v:Nat}(hN:N<=1000){k0 k:Int}(hk:K v=some k0)(hle:k<=k0):
 Ret xd 206 [p,.int .i64 v,.int .i64 k] h0 fun r h'=>Mo (· ∈F) h0 h'/\cj h' F p N (bV K v (some k)):=by
 obtain⟨bh,bm,l,rfl,ho,hc,hlt,hx⟩:=H.ex
 have hll:=qf hc hlt
 obtain⟨i,hi,ei⟩:=hc.idx hk
 have hv:v<N:=by
  have:=hlt (l.getD i default) (by rw [xc,xC hi];exact xX hi)
  rwa [ei]at this
 have c1: ¬((v:Int)<0):=by omega
 have c2: ¬((N:Int)<=(v:Int)):=by omega
 have c3: ¬(k0<k):=by omega
 rcases hx with⟨rfl,_⟩|⟨bl,cap,rfl,R⟩
 . simp at hi
 . obtain⟨cs,es,c,f,hcs,hmp,C,MI,IF⟩:=R.ex
   have S:=St.init3 (M:=(· ∈[bh,bl,bm])) ok (o1:=.row cs 1) (o2:=.row _ 1) (o3:=.map es c) hcs R.row hmp R.ne.1.symm R.ne.2.2 R.ne.2.1 (by simp) (by simp) (by simp)
   have lk:=nI (x:=(v:Int)) xB xM (z:=.int .i64 0) (by kernel_rfl) hmp MI
   have fv:f v=some (.int .i64 i):=by have:=IF.1 i hi;rwa [ei]at this
   rw [fv]at lk
   have l1:=C.ld1 hcs hi
   have clen:=C.len
   have cle:=C.le
   have ek:(l.getD i default).key=k0:=by rw [ei]
   have ev:(l.getD i default).id=v:=by rw [ei]
   rw [ek]at l1
   refine ac (n:=61) (rs:=[.tmp 6]) rfl Tryz.e206 rfl rfl rfl (lbt rfl) ?_
   simp only [BS,LB,Nat.reduceLT,Nat.reduceEqDiff,Tryz.FFh3206,lk,c1,c2,c3,hi,l1,Option.getD_some,S.ld (b:=bh) (o:=0) m1 rfl,S.ld (b:=bh) (o:=1) m1 rfl,S.ld (b:=bh) (o:=2) m1 rfl]
   refine az (S.store (i:=0) (off:=i*2+1) rfl Tryz.s2 (by intro x e;cases e) rfl rfl (by omega) ono) ?_
   clear S;rintro h ⟨S,_⟩
   simp only [LC,ah]at S
   have C1:=C.setKey hi k
   generalize lay cs (i*2+1) _=cs1 at S C1
   simp only [BS,LB,Nat.reduceLT,Nat.reduceEqDiff,Tryz.FFh3206,S.ld (b:=bh) (o:=0) m1 rfl,S.ld (b:=bh) (o:=1) m1 rfl]
   have R1:dP h bh bl bm cap N (l.set i ⟨(l.getD i default).id,k⟩):=S.rowS C1 (by rw [xg]) MI (IF.setKey k)
   refine step_ret (up_ok S.ok R1 (i:=i) (by rw [xg];exact hi) (by rw [xg];omega) (wL ho (by unfold Ab.hle;simp only [];omega))) ?_
   rintro r h ⟨f,l',R',pm,ho'⟩
   simp only [BS,Nat.reduceLT]
   have hc':=hc.lower hi k
   rw [ev]at hc'
   refine⟨S.fr.trans f (fun c hc=>?_),⟨bh,bm,l',rfl,ho',(by rw [ev]at pm;exact hc'.perm pm),fun x hx=>?_,.inr ⟨bl,cap,rfl,R'⟩⟩⟩
   . rcases hc with rfl|rfl<;>exact .inl (by simp)
   . have:=pm.mem_iff.1 hx
     rcases List.mem_or_eq_of_mem_set this with h|rfl
     . exact hlt x h
     . rw [ev];exact hv
end
end Go.Ab

end
section
namespace Go.Ab
open Go.Proofs
set_option maxRecDepth 10000
open Tryz in
def Tryz.FFh4134:=aj a1<|aj s1<|aj z1<|aj n1<|aj u2<|aj a2<|aj s2<|aj z2<|aj i2<|aj u3<|aj a3<|aj s3<|aj z3<|aj i3<|aj u4<|aj a4<|aj s4<|aj z4<|aj n4<|aj u5<|aj a5<|aj s5<|aj z5<|aj i5<|aj u6<|aj a6<|aj s6<|aj z6<|aj i6<|aj a7<|aj s7<|aj z7<|aj i7<|aj n7<|aj p7<|aj ff7<|aj d7<|aj a8<|aj s8<|aj z8<|aj i8<|aj n8<|aj p8<|aj ff8<|aj d8<|aj u198<|aj a198<|aj s198<|aj z198<|aj q198<|aj i198<|aj n198<|aj u242<|aj a242<|aj s242<|aj z242<|aj n242<|aj u264<|aj a264<|aj s264<|aj z264<|aj q264<|aj n264<|aj a266<|aj s266<|aj z266<|aj i266<|aj n266<|aj p266<|aj ff266<|aj d266<|aj a268<|aj s268<|aj z268<|aj i268<|aj n268<|aj p268<|aj ff268<|aj d268<|aj a274<|aj s274<|aj z274<|aj i274<|aj n274<|aj p274<|aj ff274<|d274
section
variable{h0:Hp}{F:List Nat}{p:Value}{N:Nat}{K:Nat->Option Int}
theorem qr(ok:h0.t.Sized h0.n)(H:cj h0 F p N K)(hN:N<=1000):
 Ret xd 134 [p] h0 fun r h'=>(r=.tuple #[.int .i64 0,.int .i64 0,.bool false]/\(∀v,K v=none)/\Gr h0 h')\/ ∃v k,r=.tuple #[.int .i64 (v:Nat),.int .i64 k,.bool true]/\K v=some k/\(∀u k',K u=some k'->k<k'\/(k=k'/\v<=u))/\Mo (· ∈F) h0 h'/\cj h' F p N (bV K v none):=by
 obtain⟨m,hlen,hm⟩:=qv ok H
 obtain⟨bh,bm,l,rfl,ho,hc,hlt,hx⟩:=H.ex
 have hll:=qf hc hlt
 by_cases h0':m=0
 . subst h0'
   have S:=Si ok
   refine ac (n:=55) (rs:=[.tmp 2,.tmp 3,.tmp 4]) rfl Tryz.e134 rfl rfl rfl (lbt rfl) ?_
   simp only [BS,LB,Nat.reduceLT,Nat.reduceEqDiff]
   refine aq (hlen) ?_;intro h g;replace S:=S.call g;clear g
   simp only [BS,LB,ae,Nat.reduceLT,Nat.reduceEqDiff,xu]
   exact .inl ⟨hm.1 rfl,S.gr⟩
 . have hm0: ¬((m:Int)=0):=by omega
   rcases hx with⟨rfl,_⟩|⟨bl,cap,rfl,R⟩
   . exact absurd (hm.2 hc.nil) h0'
   . have hpos:0<l.length:=by
      cases l with
      |nil=>exact absurd (hm.2 hc.nil) h0'
      |cons x l=>simp
     have S:=Si ok
     refine ac (n:=55) (rs:=[.tmp 2,.tmp 3,.tmp 4]) rfl Tryz.e134 rfl rfl rfl (lbt rfl) ?_
     simp only [BS,LB,Nat.reduceLT,Nat.reduceEqDiff]
     refine aq (hlen) ?_;intro h g;replace S:=S.call g;replace R:=R.gr g;clear g
     have g0:=S.gr
     clear S
     obtain⟨cs,es,c,f,hcs,hmp,C,MI,IF⟩:=R.ex
     have r0:=R.row.load1 (o:=0) rfl
     have l2:=C.ld2 hcs hpos
     have S:=Si g0.ok
     have i0:fT (.int .i64 0) l.length=some 0:=lG (i:=0) hpos
     have w1:ao .i64 ((l.length:Int)-1)=((l.length-1:Nat):Int):=by rw [wrap64]<;>omega
     simp only [BS,LB,Nat.reduceLT,Nat.reduceEqDiff,hm0]
     refine aA (sG (ord:=[14,0,1,2,3,4,5,6,7,8,9,10,11,12,13,15,16]) rfl rfl (by simp only [fo,reix,fq,List.getElem?_cons_zero,List.getElem?_cons_succ,List.map_toArray,xo,yB,Nat.reduceBEq,cond_true,cond_false];exact rfl)) (q:=1) (ps:=[(13,15),(12,15)]) (by kernel_rfl) ?_
     simp only [BS,LB,cls,Nat.reducePow,Nat.reduceDiv,Nat.reduceMod,Nat.reduceLeDiff,Tryz.FFh4134]
     refine dT ax S ?_;clear S;intro h b5 S n_b5 e_b5
     simp only [BS,LB,cls,Nat.reduceLT,Nat.reduceEqDiff,Nat.reduceAdd,Nat.reducePow,Nat.reduceDiv,Nat.reduceMod,Nat.reduceLeDiff,Tryz.FFh4134,S.old r0 (fun h=>h),S.old l2 (fun h=>h),i0,w1]
     refine dV (S.store (i:=0) rfl ?_ ?_ rfl rfl ?_ ono) ?_
     . exact(by exact Tryz.s266)
     . exact(by intro x e;cases e)
     . exact lbt rfl
     clear S;rintro h ⟨S,mo⟩;clear mo;simp only [LC,ah,lay,xq,xt,Nat.reduceAdd]at S
     simp only [BS,LB,cls,Nat.reduceLT,Nat.reduceEqDiff,Nat.reduceAdd,Nat.reducePow,Nat.reduceDiv,Nat.reduceMod,Nat.reduceLeDiff,Tryz.FFh4134,S.old r0 (fun h=>h),S.old l2 (fun h=>h)]
     have g1:=S.gr
     have R1:=R.gr g1
     have l5:=S.lds (b:=b5) (o:=0) (n:=2) m0 (lbt rfl)
     have lt1:=R.lt g0.ok
     have nb:b5≠bh:=fun e=>by have:=lt1 bh (.inl rfl);omega
     have nb2:b5≠bl:=fun e=>by have:=lt1 bl (.inr (.inl rfl));omega
     refine⟨by simp only [bH,bJ,aZ,bM,bn,ne_eq,not_false_eq_true,bT,cC,bE,bu,cg,dm,aU,Nat.reduceLT,Nat.reduceEqDiff,reduceIte,yx,ab,wE,sX,li nb,li nb.symm,li nb2,li nb2.symm],?_⟩
     have sw:Ret xd 209 [ptrTo bh,.int .i64 0,.int .i64 ((l.length-1:Nat):Int)] _ _:=pt S.ok R1 (i:=0) (k:=l.length-1) hpos (by omega)
     refine step_ret sw ?_
     --refine step_ret (pt S.ok R1 (i := 0) (k := l.length - 1) hpos (by omega)) ?_
     rintro r hA ⟨fA,R2⟩
     have gg:Gr h0 h:=g0.trans g1
     have mA:Mo (· ∈[bh,bl,bm]) h0 hA:=(gg.fr (M:=(· ∈[bh,bl,bm]))).trans fA (fun c hc=>.inl (by rcases hc with rfl|rfl<;>simp))
     have l5A:hA.load b5 0 2=some [.int .i64 (l.getD 0 default).id,.int .i64 (l.getD 0 default).key]:=by
      have:=fA.get b5 (bI fA.ok0 l5) (fun hM=>by have:=lt1 b5 (.inr hM);omega)
      unfold Hp.load at l5⊢
      rw [this];exact l5
     have lt2:=R2.lt mA.ok
     have okA:=mA.ok
     have b5lt:=bI mA.ok l5A
     clear S R R1 fA sw hcs hmp C MI IF l5 l2 r0
     obtain⟨cs,es,c,f,hcs,hmp,C,MI,IF⟩:=R2.ex
     have S:=St.init3 (M:=(· ∈[bh,bl,bm])) (h:=hA) okA (o1:=.row cs 1) (o2:=.row _ 1) (o3:=.map es c) hcs R2.row hmp R2.ne.1.symm R2.ne.2.2 R2.ne.2.1 (by simp) (by simp) (by simp)
     have sl:=slice_hi (kd:=.i64) (b:=bl) (len:=(sw l 0 (l.length-1)).length) (n:=l.length-1) yn Tryz.s274 (cap:=cap) (by have:=C.le;rw [eX]at this;omega)
     simp only [BS,LB,Nat.reduceLT,Nat.reduceEqDiff,Option.map_some,Option.map_none,Tryz.FFh4134,sl,S.ld (b:=bh) (o:=0) m1 rfl,S.ld (b:=bh) (o:=1) m1 rfl]
     refine az (aB S (i:=1) rfl ?_ ?_ ?_ ono) ?_
     . exact(by simp only [Tryz.FFh4134])
     . exact(by exact cy)
     . exact xm (lbt rfl)
     clear S;rintro h ⟨S,mo⟩;clear mo;simp only [LC,ah,lay,xq,xt,Nat.reduceAdd]at S
     simp only [BS,S.ld (b:=bh) (o:=0) m1 rfl,S.ld (b:=bh) (o:=1) m1 rfl]
     refine aA (aI rfl) (q:=0) (ps:=[]) (by kernel_rfl) ?_
     have nM5: ¬b5∈[bh,bl,bm]:=fun hm=>by
      have:=lt1 b5 (by simpa using hm)
      omega
     have l5a:hA.load b5 0 1=some [.int .i64 (l.getD 0 default).id]:=by have:=jU l5A (i:=0) (m:=1) (by omega);simpa using this
     have l5b:hA.load b5 1 1=some [.int .i64 (l.getD 0 default).key]:=by have:=jU l5A (i:=1) (m:=1) (by omega);simpa using this
     simp only [BS,LB,cls,Nat.reduceLT,Nat.reduceEqDiff,Nat.reduceAdd,Nat.reducePow,Nat.reduceDiv,Nat.reduceMod,Nat.reduceLeDiff,Tryz.FFh4134,S.old l5a nM5,S.ld (b:=bh) (o:=1) m1 rfl]
     refine dn_del (S.mdelI (i:=2) rfl xB xM MI) ?_
     clear S;rintro h ⟨_,es',c',MI',S⟩
     simp only [LC]at S
     simp only [BS,LB,Nat.reduceLT,Nat.reduceEqDiff,Nat.reduceAdd,Tryz.FFh4134]
     have slen:(sw l 0 (l.length-1)).length=l.length:=eX _ _ _
     have elast:=fM l (i:=0) (k:=l.length-1) hpos (by omega) (l.length-1)
     rw [if_pos rfl]at elast
     have IF':=IF.cut (m:=l.length-1) (by omega)
     rw [elast]at IF'
     have tl:((sw l 0 (l.length-1)).take (l.length-1)).length=l.length-1:=by rw [xE,slen];omega
     have R3:dP h bh bl bm cap N ((sw l 0 (l.length-1)).take (l.length-1)):=S.rowS (C.take _) tl.symm MI' IF'
     have dn:Ret xd 210 [ptrTo bh,.int .i64 0] h _:=down_ok S.ok R3 (i:=0) (by
      by_cases e:l.length-1=0
      . exact .inr ⟨List.length_eq_zero_iff.1 (by rw [tl,e]),rfl⟩
      . exact .inl (by omega)) (by omega) (heap_pop ho hpos)
     refine step_ret dn ?_
     rintro r h ⟨fB,l',R',pm,ho'⟩
     have mB:Mo (· ∈[bh,bl,bm]) hA h:=S.fr.trans fB (fun c hc=>.inl (by rcases hc with rfl|rfl<;>simp))
     have l5c: ∀{o x},hA.load b5 o 1=some x->h.load b5 o 1=some x:=fun e=>by
      have:=mB.get b5 b5lt nM5
      unfold Hp.load at e⊢
      rw [this];exact e
     simp only [BS]
     refine aA (aI rfl) (q:=0) (ps:=[]) (by kernel_rfl) ?_
     simp only [BS,LB,cls,ae,Nat.reduceLT,Nat.reduceEqDiff,Nat.reduceAdd,Nat.reducePow,Nat.reduceDiv,Nat.reduceMod,Nat.reduceLeDiff,Tryz.FFh4134,l5c l5a,l5c l5b]
     refine .inr ⟨(l.getD 0 default).id,(l.getD 0 default).key,rfl,hc.at hpos,fun u k' hu=>?_,mA.trans mB (fun c hc=>.inl hc),⟨bh,bm,l',rfl,ho',(hc.pop hpos).perm pm,fun x hx=>?_,.inr ⟨bl,cap,rfl,R'⟩⟩⟩
     . obtain⟨j,hj,e⟩:=hc.idx hu
       have:=heap_min ho j hj
       rw [e]at this
       unfold Ab.hle at this
       simp only []at this
       omega
     . exact hlt x ((pf l hpos (by omega)).mem_iff.1 (List.mem_of_mem_take (pm.mem_iff.1 hx)))
end
end Go.Ab

end
section
namespace Go.Ab
def lW(E:Env)(g:FuncId)(pre post:List Value)(h0:Hp)(D:Nat->Prop)(xs:List (List Value)):Prop:=
 ∀lb J Z,(∀v h,¬Z (.pan v) h)->Yld E lb J Z xs-> ∀h F,ItS h0 D h F->J 0 h F->eG E g (pre++[.func (.yield lb) #[] #[]]++post) none h (YQ J Z xs.length)
theorem iter_useN{E:Env}{g:FuncId}{pre post:List Value}{h0:Hp}{D:Nat->Prop}{xs:List (List Value)}(H:lW E g pre post h0 D xs){lb:Nat}{J:Nat->Hp->List Nat->Prop}{Z:Out->Hp->Prop}(hz: ∀v h,¬Z (.pan v) h)(Y:Yld E lb J Z xs)
 {h:Hp} {F:List Nat} (g0:Mo (fun b=> ¬D b) h0 h) (ha: ∀b∈F,b<h0.n-> ¬D b) (hj:J 0 h F):eG E g (pre++[.func (.yield lb) #[] #[]]++post) none h (YQ J Z xs.length):=
 H lb J Z hz Y h F ⟨g0.ok,g0.n,fun b hb hd=>g0.get b hb (fun hn=>hn hd),fun b hb h=>ha b hb h.1 h.2,(Y.lt 0 h F hj).2⟩ hj
theorem dn_yield{E:Env}{cx:Cx}{Q:dI}{a:List Oper}{q:Nat}{ps:List (Nat×Nat)}{o:Oper}{os:List Oper}{i:Nat}{k:List Fr}{l:Loc}{tf:Hp->List (Nat×Tch)}{h0 h:Hp}{D:Nat->Prop}{lb j:Nat}{J:Nat->Hp->List Nat->Prop}{Z:Out->Hp->Prop}{xs:List (List Value)}{x:List Value}{F:List Nat}
 (hz: ∀v h,¬Z (.pan v) h) (Y:Yld E lb J Z xs) (s:ItS h0 D h F) (hj:J j h F) (hx:xs[j]? =some x)
 (k1: ∀h' F',J (j+1) h' F'->ItS h0 D h' F'->Mo (· ∈F) h h'->(∀b∈F',b∈F\/h.n<=b)->Run E (lim E) cx Q (.opsD a q ps os (i+1) (tf h')::k) .normal (l.put o.dst (.bool true)) h')
 (k2: ∀h',Z (.ret (.bool false)) h'->h'.t.Sized h'.n->Run E (lim E) cx Q (.opsD a q ps os (i+1) (tf h')::k) .normal (l.put o.dst (.bool false)) h'):DN E cx Q a q ps o os i k l tf (some (.yield lb x,h)):=by
 obtain⟨q',h',e1,e2⟩:=Y.round j x h F hx hj
 refine⟨q',h',e1,?_⟩
 rcases e2 with⟨rfl,F',a,b,c⟩|⟨rfl,a,b⟩|⟨⟨v,rfl⟩,a⟩
 . exact k1 h' F' a (s.mo b c (Y.lt _ _ _ a).2) b c
 . exact k2 h' a b
 . exact hz v h' a
def dN(h h':Hp):Prop:= ∀b,b<h.n->h'.get b=h.get b
theorem dN.load{h h':Hp}(ok:h.t.Sized h.n)(g:dN h h'){b o n:Nat}{l:List Value}(e:h.load b o n=some l):h'.load b o n=some l:=by
 have:=g b (bI ok e)
 unfold Hp.load at e⊢
 rw [this];exact e
theorem dN.row{h h':Hp}(ok:h.t.Sized h.n)(g:dN h h'){b:Nat}{l:List Value}{md:Nat}(r:Row h b l md):Row h' b l md:=Row.of_get (g b (r.lt ok)) r
theorem aE.keep{α:Type}{h h':Hp}{k:Nat}{enc:α->List Value}{v:Value}{xs:List α}(ok:h.t.Sized h.n)(g:dN h h')(s:aE h k enc v xs):aE h' k enc v xs:=by
 rcases s with s|⟨b,o,s,c,h1,h2,h3⟩
 . exact .inl s
 . exact .inr ⟨b,o,s,c,h1,h2,g.load ok h3⟩
theorem ez.keep{h h':Hp}{v:Value}{m N:Nat}{R:Nat->List Nat}(ok:h.t.Sized h.n)(g:dN h h')(r:ez h m v N R):ez h' m v N R:=by
 obtain⟨bv,vs,h1,h0,h2,h3,h4⟩:=r
 exact⟨bv,vs,h1,h0,g.row ok h2,h3,fun i hi=>by
  obtain⟨w,a,b,c⟩:=h4 i hi
  exact⟨w,a,b.keep ok g,c⟩⟩
theorem aY.keep{h h':Hp}{m:Nat}{p:Value}{γ:Gra}(ok:h.t.Sized h.n)(g:dN h h')(n:aY h m p γ):aY h' m p γ:=by
 obtain⟨b,vx,vy,va,vo,vi,h1,h2,h3,h4,h5,h6,h7⟩:=n.ex
 exact⟨b,vx,vy,va,vo,vi,h1,g.row ok h2,⟨h3.X.keep ok g,h3.Y.keep ok g,h3.A.keep ok g⟩,h4.keep ok g,h5.keep ok g,h6,h7⟩
theorem Gr.keep{h h':Hp}(g:Gr h h'):dN h h':=g.get
theorem dN.trans{a b c:Hp}(x:dN a b)(n:a.n<=b.n)(y:dN b c):dN a c:=fun i hi=>(y i (ye hi n)).trans (x i hi)
theorem ItS.keep{hq h0 h:Hp}{D:Nat->Prop}{F:List Nat}(s:ItS h0 D h F)(g:dN hq h0)(n:hq.n<=h0.n)(hd: ∀c,c<hq.n->D c):dN hq h:=fun b hb=>(s.data b (ye hb n) (hd b hb)).trans (g b hb)
theorem rl{n:Int}(h1:0<=n)(h2:n<18446744073709551616):ao .u64 n=n:=by
 obtain⟨m,rfl⟩:=Int.eq_ofNat_of_zero_le h1
 show ao .u64 (.ofNat m)=_
 unfold ao
 simp only [hf,sgn,pw]
 have:Nat.blt m 18446744073709551616=true:=by rw [yv];omega
 rw [this];rfl
theorem b_andU{E:Env}{t:TypeId}{x y:Operand}{N:Nat}(h:N<4294967296):aT E .and t x y (.int .u64 (N:Int)) (.int .u64 4294967295)=some (.int .u64 (N:Int)):=by
 have e1:Nat.blt N 18446744073709551616=true:=by rw [yv];omega
 have e2:Nat.land N 4294967295=N:=by
  have:=Nat.and_two_pow_sub_one_eq_mod N 32
  rw [show(2 ^32-1:Nat)=4294967295 from rfl,show(2 ^32:Nat)=4294967296 from rfl,Nat.mod_eq_of_lt h]at this
  exact this
 have e3:=rl (n:=(N:Int)) (by omega) (by omega)
 have e4:iJ .and .u64 (.ofNat N) (.ofNat 4294967295)=some (ao .u64 (.ofNat (Nat.land N 4294967295))):=by
  simp only [iJ,pw]
  rw [e1];rfl
 show(iJ .and .u64 (.ofNat N) (.ofNat 4294967295)).map _=_
 rw [e4,e2]
 show some (Value.int .u64 (ao .u64 (N:Int)))=_
 rw [e3]
theorem b_shrU{E:Env}{t:TypeId}{x y:Operand}{kd:IntKind}{N:Nat}(h:N<4294967296):aT E .shr t x y (.int .u64 (N:Int)) (.int kd 32)=some (.int .u64 0):=by
 have e:N/Nat.pow 2 (bif yh 32 (bitsOf .u64)then 32 else bitsOf .u64)=0:=by
  show N/4294967296=0
  exact Nat.div_eq_of_lt h
 show(oQ .shr .u64 (.ofNat N) (.ofNat 32)).map _=_
 show some (Value.int .u64 (.ofNat (N/Nat.pow 2 (bif yh 32 (bitsOf .u64)then 32 else bitsOf .u64))))=_
 rw [e];rfl
end Go.Ab

end
section
namespace Go.Ab
open Go.Proofs
set_option maxRecDepth 10000
open Tryz in
def Tryz.FFf160:=aj a1<|aj s1<|aj z1<|aj n1<|aj u2<|aj a2<|aj s2<|aj z2<|aj i2<|aj u3<|aj a3<|aj s3<|aj z3<|aj i3<|aj u4<|aj a4<|aj s4<|aj z4<|aj n4<|aj u38<|aj a38<|aj s38<|aj z38<|aj q38<|n38
open Tryz in
def Tryz.FFf168:=aj a1<|aj s1<|aj z1<|aj n1<|aj u2<|aj a2<|aj s2<|aj z2<|aj i2<|aj u3<|aj a3<|aj s3<|aj z3<|aj i3<|aj u4<|aj a4<|aj s4<|aj z4<|aj n4<|aj u25<|aj a25<|aj s25<|aj z25<|aj q25<|aj n25<|aj u26<|aj a26<|aj s26<|aj z26<|aj q26<|aj n26<|aj a28<|aj s28<|aj z28<|aj i28<|aj n28<|aj p28<|aj ff28<|aj d28<|aj u29<|aj a29<|aj s29<|aj z29<|aj q29<|aj i29<|aj n29<|aj u38<|aj a38<|aj s38<|aj z38<|aj q38<|aj n38<|aj a49<|aj s49<|aj z49<|aj i49<|aj n49<|aj p49<|aj ff49<|aj d49<|aj u190<|aj a190<|aj s190<|aj z190<|aj q190<|aj n190<|aj a192<|aj s192<|aj z192<|aj i192<|aj n192<|aj p192<|aj ff192<|d192
open Tryz in
def Tryz.FFf1213:=aj a1<|aj s1<|aj z1<|aj n1<|aj u2<|aj a2<|aj s2<|aj z2<|aj i2<|aj u3<|aj a3<|aj s3<|aj z3<|aj i3<|aj u4<|aj a4<|aj s4<|aj z4<|aj n4<|aj u26<|aj a26<|aj s26<|aj z26<|aj q26<|aj n26<|aj a49<|aj s49<|aj z49<|aj i49<|aj n49<|aj p49<|aj ff49<|d49
open Tryz in
def Tryz.FFf1229:=aj a1<|aj s1<|aj z1<|aj n1<|aj u2<|aj a2<|aj s2<|aj z2<|aj i2<|aj u3<|aj a3<|aj s3<|aj z3<|aj i3<|aj u4<|aj a4<|aj s4<|aj z4<|aj n4<|aj u38<|aj a38<|aj s38<|aj z38<|aj q38<|aj n38<|aj u190<|aj a190<|aj s190<|aj z190<|aj q190<|n190
open Tryz in
def Tryz.FFf1140:=aj a1<|aj s1<|aj z1<|aj n1<|aj u2<|aj a2<|aj s2<|aj z2<|aj i2<|aj u3<|aj a3<|aj s3<|aj z3<|aj i3<|aj u4<|aj a4<|aj s4<|aj z4<|aj n4<|aj u25<|aj a25<|aj s25<|aj z25<|aj q25<|aj n25<|aj u26<|aj a26<|aj s26<|aj z26<|aj q26<|aj n26<|aj a28<|aj s28<|aj z28<|aj i28<|aj n28<|aj p28<|aj ff28<|aj d28<|aj u29<|aj a29<|aj s29<|aj z29<|aj q29<|aj i29<|aj n29<|aj u38<|aj a38<|aj s38<|aj z38<|aj q38<|aj n38<|aj a49<|aj s49<|aj z49<|aj i49<|aj n49<|aj p49<|aj ff49<|aj d49<|aj u190<|aj a190<|aj s190<|aj z190<|aj q190<|aj n190<|aj a192<|aj s192<|aj z192<|aj i192<|aj n192<|aj p192<|aj ff192<|d192
open Tryz in
def Tryz.FFf1157:=aj a1<|aj s1<|aj z1<|aj n1<|aj u2<|aj a2<|aj s2<|aj z2<|aj i2<|aj u3<|aj a3<|aj s3<|aj z3<|aj i3<|aj u4<|aj a4<|aj s4<|aj z4<|aj n4<|aj u25<|aj a25<|aj s25<|aj z25<|aj q25<|aj n25<|aj u26<|aj a26<|aj s26<|aj z26<|aj q26<|aj n26<|aj a28<|aj s28<|aj z28<|aj i28<|aj n28<|aj p28<|aj ff28<|aj d28<|aj u29<|aj a29<|aj s29<|aj z29<|aj q29<|aj i29<|aj n29<|aj u38<|aj a38<|aj s38<|aj z38<|aj q38<|aj n38<|aj u190<|aj a190<|aj s190<|aj z190<|aj q190<|aj n190<|aj a192<|aj s192<|aj z192<|aj i192<|aj n192<|aj p192<|aj ff192<|d192
open Tryz in
def Tryz.FFf1159:=aj a1<|aj s1<|aj z1<|aj n1<|aj u2<|aj a2<|aj s2<|aj z2<|aj i2<|aj u3<|aj a3<|aj s3<|aj z3<|aj i3<|aj u4<|aj a4<|aj s4<|aj z4<|aj n4<|aj u25<|aj a25<|aj s25<|aj z25<|aj q25<|aj n25<|aj u26<|aj a26<|aj s26<|aj z26<|aj q26<|aj n26<|aj a28<|aj s28<|aj z28<|aj i28<|aj n28<|aj p28<|aj ff28<|aj d28<|aj u29<|aj a29<|aj s29<|aj z29<|aj q29<|aj i29<|aj n29<|aj u38<|aj a38<|aj s38<|aj z38<|aj q38<|aj n38<|aj u190<|aj a190<|aj s190<|aj z190<|aj q190<|aj n190<|aj a192<|aj s192<|aj z192<|aj i192<|aj n192<|aj p192<|aj ff192<|d192
theorem ke{h0:Hp}(ok:h0.t.Sized h0.n){α:Type}{enc:α->List Value}(he: ∀x,(enc x).length=1){v:Value}{xs:List α}(hs:aE h0 1 enc v xs)(hl:xs.length<1000000):Ret xd 60 [v] h0 fun r h'=>Gr h0 h'/\aE h' 1 enc r xs/\ ∀c,au r c->h0.n<=c:=by
 have S:=Si ok
 rcases hs with⟨rfl,rfl⟩|⟨b,o,s,c,rfl,h2,h3⟩
 . refine ac (n:=8) (rs:=[.tmp 2]) rfl Tryz.e60 rfl rfl rfl (lbt rfl) ?_
   simp only [BS,LB,ae,Nat.reduceLT,Nat.reduceEqDiff,Tryz.FFf160]
   exact⟨S.gr,.inl ⟨rfl,rfl⟩,fun c hc=>hc.elim⟩
 . refine ac (n:=8) (rs:=[.tmp 2]) rfl Tryz.e60 rfl rfl rfl (lbt rfl) ?_
   simp only [BS,LB,Nat.reduceLT,Nat.reduceEqDiff,Tryz.FFf160]
   refine ag (bW (by exact xJ) (by exact xQ) (by decide) (by rfl)) S ?_;clear S;intro h bb S n_bb;simp only [LC,aP,bj,ah,Nat.reduceMul,Nat.reduceAdd,xI,xy,xA,xV]at S
   simp only [BS,LB,Nat.reduceLT,Nat.reduceEqDiff]
   refine e6 (S.cloneSl (enc:=enc) (xs:=[]) xJ xQ (by decide) Tryz.n38 (.inr ⟨b,o,s,c,rfl,h2,S.old h3 (fun h=>h)⟩) he (by decide) (by simp only [yb,xy];omega) (S.row m0)) ?_
   rintro h' v ⟨S',g,sl,hc⟩
   simp only [BS,LB,ae,Nat.reduceLT,Nat.reduceEqDiff]
   refine⟨S'.gr,by simpa using sl,fun c h=>(hc c h).elim (fun e=>by omega) (fun e=>xw S.fr.n e)⟩
theorem cE{h0:Hp}(ok:h0.t.Sized h0.n){p:Value}{γ:Gra}{nb:Nat}(c:aY h0 nb p γ):bA xd 68 [p] h0 (.int .i64 γ.nodes):=by
 have S:=Si ok
 obtain⟨b,vx,vy,va,vo,vi,rfl,r,_⟩:=c.ex
 have l0:=r.load1 (o:=0) rfl
 refine ac (n:=10) (rs:=[.tmp 2]) rfl Tryz.e68 rfl rfl rfl (lbt rfl) ?_
 simp only [BS,LB,ae,Nat.reduceLT,Nat.reduceEqDiff,Tryz.FFf168,l0]
 exact S.gr
theorem oneArc_ok{h0:Hp}(ok:h0.t.Sized h0.n){v:Value}{A:List Arc}(hv:aE h0 3 cl v A){i:Nat}(hi:i<A.length):Ret xd 213 [v,.int .i64 i] h0 fun r h'=>Gr h0 h'/\r=.tuple #[.agg ⟨cl A[i]⟩,.bool true]:=by
 have S:=Si ok
 have c1: ¬((i:Int)<0):=by omega
 have c2: ¬((A.length:Int)<=(i:Int)):=by omega
 refine ac (n:=19) (rs:=[.cell 4 49,.tmp 5]) rfl Tryz.e213 rfl rfl rfl (lbt rfl) ?_
 simp only [BS,Tryz.FFf1213]
 refine ag ax S ?_;clear S;intro h b4 S n_b4
 obtain⟨c,o,hidx,hld⟩:=(hv.gr S.gr).ix (kd:=.i64) et hi
 simp only [BS,LB,Nat.reduceLT,Nat.reduceEqDiff,Tryz.FFf1213,hv.lenq,c1,c2,hidx,hld]
 refine az (S.store (i:=0) rfl ?_ ?_ rfl rfl ?_ ono) ?_
 . exact(by exact yi)
 . exact(by intro x e;cases e)
 . exact lbt rfl
 clear S;rintro h ⟨S,mo⟩;clear mo;simp only [LC,ah,lay,xq,xt,Nat.reduceAdd]at S
 simp only [BS,ae,cl]
 refine(gH (by decide) (by simp only [aU,ab,Nat.reduceEqDiff,reduceIte];exact dH Tryz.a49 yi (S.lds (b:=b4) (o:=0) (n:=3) m0 (lbt rfl)))).2 ?_
 refine(iH (by decide)).2 (fj.2 ?_)
 exact⟨S.gr,rfl⟩
theorem rY{h0:Hp}(ok:h0.t.Sized h0.n){m:Nat}{v:Value}{N:Nat}{R:Nat->List Nat}(hv:ez h0 m v N R){i:Nat}(hi:i<N):Ret xd 229 [v,.int .i64 i] h0 fun r h'=>Gr h0 h'/\ ∃w,r=.tuple #[w,.bool true]/\aE h' 1 cw w (R i):=by
 have S:=Si ok
 obtain⟨bv,vs,rfl,_,hr,hlen,hw⟩:=hv
 obtain⟨w,e,sl,_⟩:=hw i hi
 have lw:=hr.load1 e
 have c1: ¬((i:Int)<0):=by omega
 have c2: ¬((N:Int)<=(i:Int)):=by omega
 refine ac (n:=19) (rs:=[.tmp 4,.tmp 5]) rfl Tryz.e229 rfl rfl rfl (lbt rfl) ?_
 simp only [BS,LB,ae,Nat.reduceLT,Nat.reduceEqDiff,Tryz.FFf1229,c1,c2,hi,lw]
 exact⟨S.gr,_,rfl,sl⟩
theorem jm{h0:Hp}(ok:h0.t.Sized h0.n){p:Value}{γ:Gra}{nb:Nat}(c:aY h0 nb p γ){i:Nat}(hi:i<γ.arcs.length):Ret xd 140 [p,.int .i64 i] h0 fun r h'=>Gr h0 h'/\r=.tuple #[.agg ⟨cl γ.arcs[i]⟩,.bool true]:=by
 have S:=Si ok
 obtain⟨b,vx,vy,va,vo,vi,rfl,r,ga,_⟩:=c.ex
 have l0:=r.load1 (o:=3) rfl
 refine ac (n:=18) (rs:=[.cell 4 49,.tmp 5]) rfl Tryz.e140 rfl rfl rfl (lbt rfl) ?_
 simp only [BS,Tryz.FFf1140]
 refine ag ax S ?_;clear S;intro h b4 S n_b4
 simp only [BS,LB,Nat.reduceLT,Nat.reduceEqDiff,Tryz.FFf1140,S.old l0 (fun h=>h)]
 refine step_ret (oneArc_ok S.ok (ga.A.gr S.gr) hi) ?_
 rintro v h ⟨g,rfl⟩
 replace S:=S.call g;clear g
 simp only [BS,LB,Nat.reduceLT,Nat.reduceEqDiff,cl]
 refine az (S.store (i:=0) rfl ?_ ?_ rfl rfl ?_ ono) ?_
 . exact(by exact yi)
 . exact(by intro x e;cases e)
 . exact lbt rfl
 clear S;rintro h ⟨S,mo⟩;clear mo;simp only [LC,ah,lay,xq,xt,Nat.reduceAdd]at S
 simp only [BS,LB,ae,Nat.reduceLT,Nat.reduceEqDiff]
 refine(gH (by decide) (by simp only [aU,ab,Nat.reduceEqDiff,reduceIte];exact dH Tryz.a49 yi (S.lds (b:=b4) (o:=0) (n:=3) m0 (lbt rfl)))).2 ?_
 refine(iH (by decide)).2 (fj.2 ?_)
 exact⟨S.gr,rfl⟩
theorem netOut_ok{h0:Hp}(ok:h0.t.Sized h0.n){p:Value}{γ:Gra}{nb:Nat}(c:aY h0 nb p γ)(hγ:γ.arcs.length<1000){i:Nat}(hi:i<γ.nodes):Ret xd 157 [p,.int .i64 i] h0 fun r h'=>Gr h0 h'/\aE h' 1 cw r (outs γ.arcs Arc.s γ.arcs.length i)/\ ∀c,au r c->h0.n<=c:=by
 have S:=Si ok
 obtain⟨b,vx,vy,va,vo,vi,rfl,r,ga,ro,ri,_⟩:=c.ex
 have l0:=r.load1 (o:=4) rfl
 refine ac (n:=20) (rs:=[.tmp 4]) rfl Tryz.e157 rfl rfl rfl (lbt rfl) ?_
 simp only [BS,LB,Nat.reduceLT,Nat.reduceEqDiff,Tryz.FFf1157,l0]
 refine step_ret (rY S.ok ro hi) ?_
 rintro v h ⟨g,w,rfl,sl⟩
 replace S:=S.call g;clear g
 simp only [BS,LB,Nat.reduceLT,Nat.reduceEqDiff]
 have k0:=S.fr.n
 have hol:=ja γ.arcs Arc.s γ.arcs.length i
 refine step_ret (ke S.ok dU sl (by omega)) ?_;intro v h ⟨g,sl,hc⟩;replace S:=S.call g;clear g
 simp only [BS,LB,ae,Nat.reduceLT,Nat.reduceEqDiff]
 exact⟨S.gr,sl,fun c h=>xw k0 (hc c h)⟩
theorem uB{h0:Hp}(ok:h0.t.Sized h0.n){p:Value}{γ:Gra}{nb:Nat}(c:aY h0 nb p γ)(hγ:γ.arcs.length<1000){i:Nat}(hi:i<γ.nodes):Ret xd 159 [p,.int .i64 i] h0 fun r h'=>Gr h0 h'/\aE h' 1 cw r (outs γ.arcs Arc.t γ.arcs.length i)/\ ∀c,au r c->h0.n<=c:=by
 have S:=Si ok
 obtain⟨b,vx,vy,va,vo,vi,rfl,r,ga,ro,ri,_⟩:=c.ex
 have l0:=r.load1 (o:=5) rfl
 refine ac (n:=20) (rs:=[.tmp 4]) rfl Tryz.e159 rfl rfl rfl (lbt rfl) ?_
 simp only [BS,LB,Nat.reduceLT,Nat.reduceEqDiff,Tryz.FFf1159,l0]
 refine step_ret (rY S.ok ri hi) ?_
 rintro v h ⟨g,w,rfl,sl⟩
 replace S:=S.call g;clear g
 simp only [BS,LB,Nat.reduceLT,Nat.reduceEqDiff]
 have k0:=S.fr.n
 have hol:=ja γ.arcs Arc.t γ.arcs.length i
 refine step_ret (ke S.ok dU sl (by omega)) ?_;intro v h ⟨g,sl,hc⟩;replace S:=S.call g;clear g
 simp only [BS,LB,ae,Nat.reduceLT,Nat.reduceEqDiff]
 exact⟨S.gr,sl,fun c h=>xw k0 (hc c h)⟩
theorem mul64_ok{h0:Hp}(ok:h0.t.Sized h0.n){N:Nat}(hN:N<1000):bA xd 252 [.int .u64 1,.int .u64 N] h0 (.tuple #[.int .u64 0,.int .u64 N]):=by
 have S:=Si ok
 have a1: ∀{t x y},aT xd .and t x y (.int .u64 1) (.int .u64 4294967295)=some (.int .u64 1):=b_andU (N:=1) (by decide)
 have a0: ∀{t x y},aT xd .and t x y (.int .u64 0) (.int .u64 4294967295)=some (.int .u64 0):=b_andU (N:=0) (by decide)
 have s1: ∀{t x y kd},aT xd .shr t x y (.int .u64 1) (.int kd 32)=some (.int .u64 0):=b_shrU (N:=1) (by decide)
 have s0: ∀{t x y kd},aT xd .shr t x y (.int .u64 0) (.int kd 32)=some (.int .u64 0):=b_shrU (N:=0) (by decide)
 have wn:ao .u64 (N:Int)=(N:Int):=rl (by omega) (by omega)
 have w0:ao .u64 0=0:=rfl
 refine ac (n:=51) (rs:=[.tmp 4,.tmp 5]) rfl Tryz.e252 rfl rfl rfl (lbt rfl) ?_
 simp only [BS,LB,ae,Nat.reduceLT,Nat.reduceEqDiff,a1,a0,s1,s0,b_andU (N:=N) (by omega),b_shrU (N:=N) (by omega),Int.one_mul,Int.zero_mul,Int.mul_zero,Int.add_zero,wn,w0]
 exact S.gr
theorem mul_ok{h0:Hp}(ok:h0.t.Sized h0.n){N:Nat}(hN:N<1000):bA xd 204 [.int .u64 1,.int .u64 N] h0 (.tuple #[.int .u64 0,.int .u64 N]):=by
 have S:=Si ok
 refine ac (n:=30) (rs:=[.tmp 4,.tmp 5]) rfl Tryz.e204 rfl rfl rfl (lbt rfl) ?_
 simp only [BS,LB,Nat.reduceLT,Nat.reduceEqDiff]
 refine aq (mul64_ok S.ok hN) ?_;intro h g;replace S:=S.call g;clear g
 simp only [BS,LB,ae,Nat.reduceLT,Nat.reduceEqDiff]
 exact S.gr
end Go.Ab
end

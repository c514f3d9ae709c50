/- Nets, cells, flags: what the functions do (part 5). -/
import Derived.Test.YtdjlnmjcdmnllaaGreatDoorNetD
import Derived.ChangeSlices
import Derived.ChangeArms
import Derived.ChangeSame
open List renaming replicate->xc,getD_eq_getElem?_getD->xd,length_take->xf,flatMap_eq_foldl->xh,all_cons->xi,replicate_succ->xj,all_nil->xk,take->xm,drop->xn
open Bool renaming and_true->xe
open Nat renaming min_eq_left->xg,zero_le->xo
set_option maxHeartbeats 4000000
set_option linter.defProp false
set_option linter.unusedVariables false
set_option linter.unusedSimpArgs false
section
namespace Go.Ab
open Go.Proofs
set_option maxRecDepth 10000
open Tryz in
def Tryz.FFfl1426:=aj a1<|aj s1<|aj z1<|aj n1<|aj u2<|aj a2<|aj s2<|aj z2<|aj i2<|aj u3<|aj a3<|aj s3<|aj z3<|aj i3<|aj u4<|aj a4<|aj s4<|aj z4<|aj n4<|aj u25<|aj a25<|aj s25<|aj z25<|aj q25<|aj n25<|aj a28<|aj s28<|aj z28<|aj i28<|aj n28<|aj p28<|aj ff28<|aj d28<|aj u29<|aj a29<|aj s29<|aj z29<|aj q29<|aj i29<|aj n29<|aj u38<|aj a38<|aj s38<|aj z38<|aj q38<|aj n38<|aj u43<|aj a43<|aj s43<|aj z43<|aj q43<|aj n43<|aj u52<|aj a52<|aj s52<|aj z52<|aj q52<|aj n52<|aj a54<|aj s54<|aj z54<|aj i54<|aj n54<|aj p54<|aj ff54<|aj d54<|aj u55<|aj a55<|aj s55<|aj z55<|aj i55<|aj a59<|aj s59<|aj z59<|aj i59<|aj n59<|aj p59<|aj ff59<|aj d59<|aj a164<|aj s164<|aj z164<|aj i164<|aj n164<|aj p164<|aj ff164<|aj d164<|aj u190<|aj a190<|aj s190<|aj z190<|aj q190<|aj n190<|aj a192<|aj s192<|aj z192<|aj i192<|aj n192<|aj p192<|aj ff192<|d192
open Tryz in
def Tryz.FFfl144:=aj a1<|aj s1<|aj z1<|aj n1<|aj u2<|aj a2<|aj s2<|aj z2<|aj i2<|aj u3<|aj a3<|aj s3<|aj z3<|aj i3<|aj u4<|aj a4<|aj s4<|aj z4<|aj n4<|aj u5<|aj a5<|aj s5<|aj z5<|aj i5<|aj u6<|aj a6<|aj s6<|aj z6<|aj i6<|aj a7<|aj s7<|aj z7<|aj i7<|aj n7<|aj p7<|aj ff7<|aj d7<|aj a8<|aj s8<|aj z8<|aj i8<|aj n8<|aj p8<|aj ff8<|aj d8<|aj u9<|aj a9<|aj s9<|aj z9<|aj n9<|aj u10<|aj a10<|aj s10<|aj z10<|aj n10<|aj u11<|aj a11<|aj s11<|aj z11<|aj n11<|aj u12<|aj a12<|aj s12<|aj z12<|aj i12<|aj a13<|aj s13<|aj z13<|aj i13<|aj n13<|aj p13<|aj ff13<|aj d13<|aj a14<|aj s14<|aj z14<|aj i14<|aj n14<|aj p14<|aj ff14<|aj d14<|aj u15<|aj a15<|aj s15<|aj z15<|aj q15<|aj i15<|aj n15<|aj u16<|aj a16<|aj s16<|aj z16<|aj q16<|aj i16<|aj n16<|aj u17<|aj a17<|aj s17<|aj z17<|aj q17<|aj i17<|aj n17<|aj a18<|aj s18<|aj z18<|aj i18<|aj n18<|aj p18<|aj ff18<|aj d18<|aj a19<|aj s19<|aj z19<|aj i19<|aj n19<|aj p19<|aj ff19<|aj d19<|aj a20<|aj s20<|aj z20<|aj q20<|aj n20<|aj u21<|aj a21<|aj s21<|aj z21<|aj i21<|aj u22<|aj a22<|aj s22<|aj z22<|aj q22<|aj n22<|aj a23<|aj s23<|aj z23<|aj i23<|aj n23<|aj p23<|aj ff23<|aj d23<|aj a24<|aj s24<|aj z24<|aj i24<|aj n24<|aj p24<|aj ff24<|aj d24<|aj u25<|aj a25<|aj s25<|aj z25<|aj q25<|aj n25<|aj u26<|aj a26<|aj s26<|aj z26<|aj q26<|aj n26<|aj a27<|aj s27<|aj z27<|aj i27<|aj n27<|aj p27<|aj ff27<|aj d27<|aj a28<|aj s28<|aj z28<|aj i28<|aj n28<|aj p28<|aj ff28<|aj d28<|aj u29<|aj a29<|aj s29<|aj z29<|aj q29<|aj i29<|aj n29<|aj u30<|aj a30<|aj s30<|aj z30<|aj q30<|aj i30<|aj n30<|aj u34<|aj a34<|aj s34<|aj z34<|aj q34<|aj i34<|aj n34<|aj u38<|aj a38<|aj s38<|aj z38<|aj q38<|aj n38<|aj a49<|aj s49<|aj z49<|aj i49<|aj n49<|aj p49<|aj ff49<|aj d49<|aj a115<|aj s115<|aj z115<|aj i115<|aj n115<|aj p115<|aj ff115<|aj d115<|aj a117<|aj s117<|aj z117<|aj i117<|aj n117<|aj p117<|aj ff117<|aj d117<|aj u121<|aj a121<|aj s121<|aj z121<|aj q121<|aj i121<|aj n121<|aj u190<|aj a190<|aj s190<|aj z190<|aj q190<|aj n190<|aj a192<|aj s192<|aj z192<|aj i192<|aj n192<|aj p192<|aj ff192<|aj d192<|aj u294<|aj a294<|aj s294<|aj z294<|aj i294<|aj u324<|aj a324<|aj s324<|aj z324<|aj i324<|aj a357<|aj s357<|aj z357<|aj i357<|aj n357<|aj p357<|aj ff357<|aj d357<|aj u358<|aj a358<|aj s358<|aj z358<|aj n358<|aj a360<|aj s360<|aj z360<|aj i360<|aj n360<|aj u362<|aj a362<|aj s362<|aj z362<|aj i362<|aj a363<|aj s363<|aj z363<|aj n363<|aj u364<|aj a364<|aj s364<|aj z364<|aj i364<|aj u365<|aj a365<|aj s365<|aj z365<|aj i365<|aj a367<|aj s367<|aj z367<|aj i367<|aj n367<|aj p367<|aj ff367<|d367
theorem tz(l:List Int)(a:Int):a<=l.foldl max a/\ ∀x∈l,x<=l.foldl max a:=by
 induction l generalizing a with
 |nil=>exact⟨Int.le_refl _,fun x h=>by cases h⟩
 | cons y ys ih=>
   obtain⟨h1,h2⟩:=ih (max a y)
   refine⟨by rw [List.foldl_cons];omega,fun x hx=>?_⟩
   rw [List.foldl_cons]
   rcases List.mem_cons.1 hx with rfl|hx
   . omega
   . exact h2 x hx
theorem lmax_ge2{l:List Int}{x:Int}(h:x∈l):x<=eB l:=by
 cases l with
 |nil=>cases h
 | cons y ys=>
   rw [eB]
   rcases List.mem_cons.1 h with rfl|h
   . exact(tz ys _).1
   . exact(tz ys _).2 x h
theorem lmax_iota{n:Nat}(h:1<=n):eB (iL n)+1=(n:Int):=by
 have h1:=rx (K:=(n:Int)-1) (by omega) (l:=iL n) (fun x hx=>by
  obtain⟨i,hi,rfl⟩:=List.mem_map.1 hx
  have:=List.mem_range.1 hi
  omega)
 have h2:=lmax_ge2 (l:=iL n) (x:=((n-1:Nat):Int)) (List.mem_map.2 ⟨n-1,List.mem_range.2 (by omega),rfl⟩)
 omega
theorem we{n:Nat}(h:1<=n):eB (xc n (0:Int))=0:=by
 have h1:=rx (K:=0) (by omega) (l:=xc n (0:Int)) (fun x hx=>by
  have:=List.eq_of_mem_replicate hx
  omega)
 omega
theorem wB(n:Nat):norm [] (xc n (0:Int))=xc n 0:=by
 have key: ∀n,norm [0] (xc n (0:Int))=xc n 0:=by
  intro n
  induction n with
  |zero=>rfl
  | succ n ih=>
    rw [xj,norm]
    have e1:kj [0] 0=0:=rfl
    have e2:ku [0] 0=[0]:=rfl
    rw [e1,e2,ih];rfl
 cases n with
 |zero=>rfl
 | succ n=>
   rw [xj,norm]
   have e1:kj [] 0=0:=rfl
   have e2:ku [] 0=[0]:=rfl
   rw [e1,e2,key];rfl
theorem one_all{γ:Gra}{a:Nat}(ha:a<γ.arcs.length):a∈cF γ (fun _=>0) 0:=(qC ha).2 (.inl (decide_eq_true ⟨rfl,rfl⟩))
theorem own_on{γ:Gra}{v a p q:Nat}{x:Arc}(ha:a<γ.arcs.length)(hx:γ.arcs.getD a default=x)(hv:v<γ.nodes)(hp:IsD γ.arcs x.s v p)(hq:IsD γ.arcs x.t v q)
 (eT: ∀{s:Nat},s<γ.nodes-> ∀v,IsD (seen γ.arcs Arc.t Arc.s) s v (dOf (seen γ.arcs Arc.t Arc.s) s v)):
 a∈cF γ (fun u=>u) v↔(x.s=v/\x.t=v)\/(jC γ (fun u=>u) v v=true/\p<FAR/\q<FAR/\p=x.w+q):=by
 rw [qC ha]
 unfold insB fS
 rw [hx,decide_eq_true_iff]
 have ep:=(tT (eT hv x.s)).uniq hp
 have eq:=(tT (eT hv x.t)).uniq hq
 refine or_congr Iff.rfl ⟨?_,?_⟩
 . rintro⟨b,hb,h⟩
   have hb:=(List.mem_filter.1 hb).2
   have e:b=v:=(uj.1 hb).1
   subst e
   have h:=of_decide_eq_true h
   rw [ep,eq]at h
   exact⟨hb,h⟩
 . rintro⟨hb,h⟩
   exact⟨v,List.mem_filter.2 ⟨List.mem_range.2 hv,hb⟩,decide_eq_true (by rw [ep,eq];exact h)⟩
theorem rQ{h0:Hp}(ok:h0.t.Sized h0.n){γ:Gra}(hγ:Good γ){nb bp:Nat}(hn:aY h0 nb (ptrTo bp) γ){s to:Nat}(hs:s<γ.nodes)(hto:to<γ.nodes):
 Ret Tryz.abEnv 26 [ptrTo bp,.int .i64 (s:Nat),.int .i64 (to:Nat)] h0 fun r h'=>Gr h0 h'/\ ∃x,r=.int .i64 (x:Nat)/\IsD γ.arcs s to x:=by
 have S:=Si ok
 refine ac (n:=21) (rs:=[.tmp 6]) rfl Tryz.e26 rfl rfl rfl (lbt rfl) ?_
 simp only [BS,LB,Nat.reduceLT,Nat.reduceEqDiff,Nat.reduceAdd,Tryz.FFfl1426]
 refine step_ret (wW S.ok hγ hn hs hto (als:=[]) (pis:=[]) (.inl ⟨rfl,rfl⟩) (.inl rfl) (.inl ⟨rfl,rfl⟩) (.inl rfl)) ?_
 rintro r h ⟨g,v,fd,rfl,⟨vA,vE,rfl,G1,G2,d1,d2⟩,he⟩
 have f1:Fl vA:=G1.fl
 have f2:Fl vE:=G2.fl
 replace S:=S.call g
 simp only [BS,LB,Nat.reduceLT,Nat.reduceEqDiff,Tryz.FFfl1426]
 refine ag ax S ?_;clear S;intro h b7 S n_b7
 simp only [BS,LB,Nat.reduceLT,Nat.reduceEqDiff]
 refine az (S.store (i:=0) rfl Tryz.s54 (by intro x e;cases e) rfl (by simp only [ah,xi,xk,f1.2.1,f2.2.1,xe];rfl) (lbt rfl) ono) ?_
 clear S;rintro h' ⟨S,mo⟩
 simp only [LC,ah,lay,xm,xn,Nat.reduceAdd]at S
 simp only [BS,LB,ae,Nat.reduceLT,Nat.reduceEqDiff,Tryz.FFfl1426,S.ld (b:=b7) (o:=0) m0 rfl]
 exact⟨S.gr,fd.dist,rfl,run_all hγ hs he⟩
theorem sT {h0 : Hp} (ok :h0.t.Sized h0.n) {vB:Value} {B:List Int} (hB:SlW h0 .u8 vB B):
 bA Tryz.abEnv 4 [vB] h0 (.bool true):=by
 have S:=Si ok
 have fB:=hB.sl.fl
 refine ac (n:=144) (rs:=[.tmp 2]) rfl Tryz.e4 rfl rfl rfl (lbt rfl) ?_
 simp only [BS,LB]
 refine aq (tB S.ok) ?_
 intro h1 g1;replace S:=S.call g1;clear g1
 simp only [BS,LB,Nat.reduceLT,Nat.reduceEqDiff,Nat.reduceAdd,Tryz.FFfl144,fB]
 refine ag ax S ?_;clear S;intro h b3 S n_b3
 simp only [BS,LB,Nat.reduceLT,Nat.reduceEqDiff]
 refine az (S.store (i:=0) rfl Tryz.s24 (by intro x e;cases e) rfl (by simp only [ah,xi,xk,fB.2.1,xe];rfl) (lbt rfl) ono) ?_
 clear S;rintro h ⟨S,_⟩
 simp only [LC,ah,lay,xm,xn,Nat.reduceAdd]at S
 have hB':SlW h .u8 vB B:=hB.imp (fun h=>h) (fun⟨b,o,c,h1,h2,h3⟩=>⟨b,o,c,h1,h2,S.old h3 (fun h=>h)⟩)
 have hO':SlW h .u8 (.slice none 0 0) []:=.inl ⟨rfl,rfl⟩
 simp only [BS,LB,Nat.reduceLT,Nat.reduceEqDiff,Tryz.FFfl144,List.drop_zero,List.take_succ_cons,List.take_zero,S.lds (b:=b3) (o:=0) (n:=2) m0 (lbt rfl)]
 refine step_ret (graph_ok S.ok hB' hO' (fun x h=>by cases h)) ?_;intro v h ⟨g,γ,vx,vy,va,p,q,m,er,hγ,⟨kp,hp⟩,⟨kq,hq⟩,lm,ga,bm,mz,hio⟩;replace S:=S.call g;clear g
 subst er
 have hio:=hio rfl
 subst hio
 have n1:=hγ.n1
 have n2:=hγ.n2
 have many:=hγ.many
 obtain⟨bp,ep⟩: ∃b,p=ptrTo b:=by obtain⟨b,_,_,_,_,_,e,_⟩:=hp.ex;exact⟨b,e⟩
 obtain⟨bq,eq⟩: ∃b,q=ptrTo b:=by obtain⟨b,_,e,_⟩:=hq;exact⟨b,e⟩
 subst ep eq
 have eT: ∀{s:Nat},s<γ.nodes-> ∀v,IsD (seen γ.arcs Arc.t Arc.s) s v (dOf (seen γ.arcs Arc.t Arc.s) s v):=fun hs v=>exTo S.ok hγ hp hs v
 have cel:fh h kq (ptrTo bq) γ.nodes (iL γ.nodes) (fun u=>u):=⟨hq,lm,fun v hv=>by simp [iL,xd,hv]⟩
 simp only [BS,LB,Nat.reduceLT,Nat.reduceEqDiff,Tryz.FFfl144,iq]
 have g0:=S.gr
 clear S;have S:=Si g0.ok
 rename Hp=>hG
 refine ag ax S ?_;clear S;intro h b4 S n_b4
 have fx:=ga.X.fl
 have fy:=ga.Y.fl
 have fa:=ga.A.fl
 simp only [BS,LB,Nat.reduceLT,Nat.reduceEqDiff]
 refine az (S.store (i:=0) rfl Tryz.s28 (by intro x e;cases e) rfl (by simp only [ah,xi,xk,fx.2.1,fy.2.1,fa.2.1,xe];rfl) (lbt rfl) ono) ?_
 clear S;rintro h ⟨S,_⟩
 simp only [LC,ah,lay,xm,xn,Nat.reduceAdd]at S
 simp only [BS,LB,Nat.reduceLT,Nat.reduceEqDiff,Tryz.FFfl144,S.ld (b:=b4) (o:=0) m0 rfl]
 refine ag (iw (by exact Tryz.u38) (by exact Tryz.e3E) (by omega) (by omega)) S ?_;clear S;intro h bz S n_bz
 have e0:aP [Value.int .i64 0] γ.nodes=ints (xc γ.nodes 0):=by
  rw [jS,tt,List.map_replicate]
 rw [Int.toNat_natCast,e0]at S
 have sz:aE h 1 (encI .i64) (.slice (some ⟨bz,0,none⟩) γ.nodes γ.nodes) (xc γ.nodes 0):=by
  refine .inr ⟨bz,0,none,γ.nodes,by simp,by simp,?_⟩
  have:=(S.row (b:=bz) m0).load (o:=0) (n:=(xc γ.nodes (0:Int)).length*1) (by rw [cN];omega)
  rw [this,List.drop_zero,List.take_of_length_le (by rw [cN];omega)];rfl
 have lz:=we n1
 simp only [BS,LB,Nat.reduceLT,Nat.reduceEqDiff,Int.toNat_natCast]
 refine step_ret (qk S.ok sz (by simp;omega) (by omega)) ?_
 rintro vC h2 ⟨g2,hc⟩
 have hc:=(hc.resolve_left fun h=>by
  rcases h.1 with h|h|h
  . have:=congrArg List.length h;simp at this;omega
  . exact h (wB _)
  . omega).2
 replace S:=S.drop1.call g2;clear g2 sz
 obtain⟨bc,ec⟩: ∃b,vC=ptrTo b:=by obtain⟨b,_,e,_⟩:=hc;exact⟨b,e⟩
 subst ec
 have cez:fh h2 _ (ptrTo bc) γ.nodes (xc γ.nodes 0) (fun _=>0):=⟨hc,by simp,fun v hv=>by simp [xd,hv]⟩
 simp only [BS,LB,Nat.reduceLT,Nat.reduceEqDiff]
 refine step_ret (ofB_ok S.ok hγ (hp.gr S.gr) cez (M:=1) (by omega) (by omega)) ?_
 rintro r hE ⟨g,ep,eb,Be,rfl,_,_,_,BE,oE⟩
 replace S:=S.call g;clear g
 have l4:=(S.row (b:=b4) m0).lt S.ok
 simp only [BS,LB,Nat.reduceLT,Nat.reduceEqDiff]
 refine aA (aI rfl) (q:=0) (ps:=[(4,8),(4,7)]) (by kernel_rfl) ?_
 simp only [BS,LB,cls,Nat.reduceLT,Nat.reduceEqDiff,Nat.reduceAdd,Nat.reducePow,Nat.reduceDiv,Nat.reduceMod,Nat.reduceLeDiff,Tryz.FFfl144]
 refine dc (bRow_ok S.ok BE (r:=0) (by omega) (by omega) (by omega) rfl) ?_
 rintro vR h3 ⟨g3,sR,_⟩
 have e1:=aF g3 l4
 have e5: ∀c,mW va=some (.blk c)->leaves hE h3 c=true:=fun c hc=>aF g3 (noteL_lt S.ok (ga.A.gr S.gr) hc)
 replace S:=S.call g3;clear g3
 have lR:((List.range γ.arcs.length).filter (fJ Be ((γ.arcs.length+7)/8) 0)).length=γ.arcs.length:=by
  rw [List.filter_eq_self.2,List.length_range]
  intro a ha
  exact(oE 0 a (List.mem_range.1 ha)).2 (.inl ⟨by omega,one_all (List.mem_range.1 ha)⟩)
 simp only [BS,LB,cls,Nat.reduceLT,Nat.reduceEqDiff,Nat.reduceAdd,Nat.reducePow,Nat.reduceDiv,Nat.reduceMod,Nat.reduceLeDiff,Tryz.FFfl144,sR.lenq,lR,(ga.A.gr S.gr).lenq,S.ld (b:=b4) (o:=3) m0 rfl]
 refine⟨by simp only [bH,bJ,aZ,bM,bn,ne_eq,not_false_eq_true,bT,cC,bE,bu,cg,dm,aU,Nat.reduceLT,Nat.reduceEqDiff,reduceIte,xe,ab,aR e1,bw e1,note_lenV,pair_len e5,nX],?_⟩
 refine step_ret (ofB_ok S.ok hγ (hp.gr S.gr) (cel.gr S.gr) (lmax_iota n1) (by omega)) ?_
 rintro r hF ⟨g,fp,fb,Bt,rfl,_,_,_,BN,oB⟩
 replace S:=S.call g;clear g
 generalize hlong:(γ.arcs.length+7)/8=long at*
 have rest: ∀{h:Hp},Gr hF h->ia h fp fb γ.nodes γ.arcs.length long Bt:=fun g=>BN.gr g
 have gF:Gr hF hF:=Gr.refl S.ok
 simp only [BS,LB,Nat.reduceLT,Nat.reduceEqDiff]
 refine aV (fun(v:Nat) ρ h=>v<=γ.nodes/\Gr hG h/\Row h b4 [.int .i64 γ.nodes,vx,vy,va] 1/\Gr hF h/\ρ 4=ptrTo b4/\ρ 5=ptrTo bp/\ρ 8=ptrTo fp/\ρ 9=.int .i64 v) (fun v=>γ.nodes-v) ?_ 0 _ _ ?_
 . clear S gF e1 e5 l4 sR lR
   intro v ih ρ h ⟨hv',gG,R4,gF,r4,r5,r8,r9⟩
   have l40:=R4.load1 (o:=0) rfl
   have w:ao .i64 ((v:Int)+1)=((v+1:Nat):Int):=by rw [wrap64]<;>omega
   by_cases hv:v<γ.nodes
   . simp only [BS,LB,Nat.reduceLT,Nat.reduceEqDiff,Tryz.FFfl144,r4,r9,aG,hv,l40]
     refine aV (fun(a:Nat) ρ h=>a<=γ.arcs.length/\Gr hG h/\Row h b4 [.int .i64 γ.nodes,vx,vy,va] 1/\Gr hF h/\ρ 4=ptrTo b4/\ρ 5=ptrTo bp/\ρ 8=ptrTo fp/\ρ 9=.int .i64 v/\ρ 10=.bool (borK γ (fun u=>u) v v a)/\ρ 11=.int .i64 a) (fun a=>γ.arcs.length-a) ?_ 0 _ _ ?_
     . clear gG R4 l40 gF r4 r5 r8 r9
       intro a iha ρ h ⟨ha,gG,R4,gF,r4,r5,r8,r9,r10,r11⟩
       have l43:=R4.load1 (o:=3) rfl
       have wa:ao .i64 ((a:Int)+1)=((a+1:Nat):Int):=by rw [wrap64]<;>omega
       have gaC:=ga.A.gr gG
       by_cases hat:a<γ.arcs.length
       . obtain⟨c3,o3,x3,y3⟩:=gaC.ix (kd:=.i64) et hat
         have bs:=borK_succ (c:=fun u=>u) (k:=v) (v:=v) hat
         have y31:h.load c3 (o3+1) 1=some [.int .i64 (γ.arcs[a].t:Nat)]:=jU y3 (i:=1) (m:=1) (by omega)
         have y30:h.load c3 o3 1=some [.int .i64 (γ.arcs[a].s:Nat)]:=jU y3 (i:=0) (m:=1) (by omega)
         generalize γ.arcs[a]=x at bs y30 y31
         have q1:((x.t:Int)=(v:Int))=(x.t=v):=propext ⟨fun h=>by omega,fun h=>by omega⟩
         have q2:((x.s:Int)=(v:Int))=(x.s=v):=propext ⟨fun h=>by omega,fun h=>by omega⟩
         cases hb:borK γ (fun u=>u) v v a with
         | true=>
           rw [hb]at r10 bs
           simp only [BS,LB,Nat.reduceLT,Nat.reduceEqDiff,Tryz.FFfl144,r4,r10,r11,gaC.lenq,l43,aG,hat,wa]
           exact iha (a+1) _ _ (by omega) ⟨by omega,gG,R4,gF,by simp [aa,r4,ab],by simp [aa,r5,ab],by simp [aa,r8,ab],by simp [aa,r9],by rw [bs];simp [aa,r10],by simp [aa]⟩
         | false=>
           rw [hb]at r10 bs
           by_cases e1:x.t=v
           . by_cases e2:x.s=v
             . simp only [BS,LB,Nat.reduceLT,Nat.reduceEqDiff,Tryz.FFfl144,r4,r9,r10,r11,gaC.lenq,l43,aG,hat,wa,x3,y30,y31,e1,e2]
               exact iha (a+1) _ _ (by omega) ⟨by omega,gG,R4,gF,by simp [aa,r4,ab],by simp [aa,r5,ab],by simp [aa,r8,ab],by simp [aa,r9],by rw [bs];simp [aa,e1,e2],by simp [aa]⟩
             . simp only [BS,LB,Nat.reduceLT,Nat.reduceEqDiff,Tryz.FFfl144,r4,r9,r10,r11,gaC.lenq,l43,aG,hat,wa,x3,y30,y31,q2,e1,e2]
               exact iha (a+1) _ _ (by omega) ⟨by omega,gG,R4,gF,by simp [aa,r4,ab],by simp [aa,r5,ab],by simp [aa,r8,ab],by simp [aa,r9],by rw [bs];simp [aa,e1,e2],by simp [aa]⟩
           . simp only [BS,LB,Nat.reduceLT,Nat.reduceEqDiff,Tryz.FFfl144,r4,r9,r10,r11,gaC.lenq,l43,aG,hat,wa,x3,y31,q1,e1]
             exact iha (a+1) _ _ (by omega) ⟨by omega,gG,R4,gF,by simp [aa,r4,ab],by simp [aa,r5,ab],by simp [aa,r8,ab],by simp [aa,r9],by rw [bs];simp [aa,e1],by simp [aa]⟩
       . have haE:a=γ.arcs.length:=by omega
         subst haE
         rw [borK_all]at r10
         simp only [BS,LB,ae,Nat.reduceLT,Nat.reduceEqDiff,Tryz.FFfl144,r4,r9,r11,gaC.lenq,l43,aG,hat]
         refine aV (fun(a:Nat) ρ h=>a<=γ.arcs.length/\Gr hG h/\Row h b4 [.int .i64 γ.nodes,vx,vy,va] 1/\Gr hF h/\ρ 4=ptrTo b4/\ρ 5=ptrTo bp/\ρ 8=ptrTo fp/\ρ 9=.int .i64 v/\ρ 10=.bool (jC γ (fun u=>u) v v)/\ρ 12=.int .i64 a) (fun a=>γ.arcs.length-a) ?_ 0 _ _ ?_
         . clear gG R4 l43 gF r4 r5 r8 r9 r10 r11 gaC hat
           intro a ihi ρ h ⟨ha,gG,R4,gF,r4,r5,r8,r9,r10,r12⟩
           have l43:=R4.load1 (o:=3) rfl
           have wi:ao .i64 ((a:Int)+1)=((a+1:Nat):Int):=by rw [wrap64]<;>omega
           have gaC:=ga.A.gr gG
           by_cases hat:a<γ.arcs.length
           . obtain ⟨c3, o3,x3,y3⟩:=gaC.ix (kd:=.i64) et hat
             have ags:γ.arcs.getD a default=γ.arcs[a]:=by simp [xd,hat]
             obtain⟨a1,a2,a3⟩:=hγ.arcs _ (List.getElem_mem hat)
             generalize γ.arcs[a]=x at ags a1 a2 a3 y3
             simp only [BS,LB,Nat.reduceLT,Nat.reduceEqDiff,Tryz.FFfl144,r4,r12,gaC.lenq,l43,aG,hat,x3,y3]
             rename Hp=>hK
             have S:=Si gG.ok
             refine ag ax S ?_;clear S;intro h b13 S n_b13
             simp only [BS,LB,Nat.reduceLT,Nat.reduceEqDiff,cl]
             refine az (S.store (i:=0) rfl ?_ ?_ rfl rfl ?_ ono) ?_
             . exact(by exact Tryz.s49)
             . exact(by intro x e;cases e)
             . exact lbt rfl
             clear S;rintro h ⟨S,mo⟩;clear mo;simp only [LC,ah,lay,xm,xn,Nat.reduceAdd]at S
             simp only [BS]
             have l13:=(S.row (b:=b13) m0).lt S.ok
             refine aA (aI rfl) (q:=0) (ps:=[(4,7)]) (by kernel_rfl) ?_
             simp only [BS,LB,cls,Nat.reduceLT,Nat.reduceEqDiff,Nat.reduceAdd,Nat.reducePow,Nat.reduceDiv,Nat.reduceMod,Nat.reduceLeDiff,Tryz.FFfl144,r5,r9,S.ld (b:=b13) (o:=0) m0 rfl]
             refine dc (rQ S.ok hγ (hp.gr (gG.trans S.gr)) a1 hv) ?_
             rintro r h7 ⟨g7,p',rfl,hpd⟩
             have e1:=aF g7 l13
             have k7:=g7.n
             replace S:=S.call g7;clear g7
             simp only [BS,LB,cls,Nat.reduceLT,Nat.reduceEqDiff,Nat.reduceAdd,Nat.reducePow,Nat.reduceDiv,Nat.reduceMod,Nat.reduceLeDiff,Tryz.FFfl144,r5,r9,S.ld (b:=b13) (o:=1) m0 rfl]
             refine dc (rQ S.ok hγ (hp.gr (gG.trans S.gr)) a2 hv) ?_
             rintro r h8 ⟨g8,q',rfl,hqd⟩
             have e2:=aF g8 (Nat.lt_of_lt_of_le l13 k7)
             replace S:=S.call g8;clear g8
             simp only [BS,LB,cls,Nat.reduceLT,Nat.reduceEqDiff,Nat.reduceAdd,Nat.reducePow,Nat.reduceDiv,Nat.reduceMod,Nat.reduceLeDiff,Tryz.FFfl144]
             refine⟨by simp only [bH,bJ,aZ,bM,bn,ne_eq,not_false_eq_true,bT,cC,bE,bu,cg,dm,aU,Nat.reduceLT,Nat.reduceEqDiff,reduceIte,xe,r4,r5,r8,r9,r10,r12,ab,aR e1,bw e1,aR e2,bw e2],?_⟩
             have on:=own_on hat ags hv hpd hqd eT
             have dq:=hqd.le
             have hF':=iP
             have q1:((x.t:Int)=(v:Int))=(x.t=v):=propext ⟨fun h=>by omega,fun h=>by omega⟩
             have q2:((x.s:Int)=(v:Int))=(x.s=v):=propext ⟨fun h=>by omega,fun h=>by omega⟩
             have wsum:ao .i64 ((x.w:Int)+(q':Int))=((x.w+q':Nat):Int):=by rw [wrap64]<;>omega
             have z1:((p':Int)<72057594037927936)=(p'<FAR):=propext ⟨fun h=>by omega,fun h=>by omega⟩
             have z2:((q':Int)<72057594037927936)=(q'<FAR):=propext ⟨fun h=>by omega,fun h=>by omega⟩
             have z3:((p':Int)=((x.w+q':Nat):Int))=(p'=x.w+q'):=propext ⟨fun h=>by omega,fun h=>by omega⟩
             have ebit:fJ Bt long v a=decide (a∈cF γ (fun u=>u) v):=by
              have:=oB v a hat
              simp only [List.take_zero,List.not_mem_nil,and_false,or_false,hv,true_and]at this
              rw [Bool.eq_iff_iff,this,decide_eq_true_iff]
             have hget:=bGet_ok S.ok (rest (gF.trans S.gr)) hv hat (by omega) (by omega) hlong.symm
             rw [ebit]at hget
             by_cases k1:x.s=v
             . by_cases k2:x.t=v
               . have hget:=hget
                 simp only [BS,LB,Nat.reduceLT,Nat.reduceEqDiff,Tryz.FFfl144,r8,r9,r12,k1,k2,S.ld (b:=b13) (o:=0) m0 rfl,S.ld (b:=b13) (o:=1) m0 rfl,S.ld (b:=b13) (o:=2) m0 rfl]
                 rw [decide_eq_true (on.2 (.inl ⟨k1,k2⟩))]at hget
                 refine aq hget ?_
                 intro h9 g9;replace S:=S.call g9;clear g9
                 simp only [BS,LB,Nat.reduceLT,Nat.reduceEqDiff,Tryz.FFfl144,r12,wi]
                 exact ihi (a+1) _ _ (by omega) ⟨by omega,gG.trans S.gr,R4.gr S.gr,gF.trans S.gr,by simp [aa,r4,ab],by simp [aa,r5,ab],by simp [aa,r8,ab],by simp [aa,r9],by simp [aa,r10],by simp [aa]⟩
               . skip
                 have hnk: ¬(x.s=v/\x.t=v):=fun h=>k2 h.2
                 cases hb:jC γ (fun u=>u) v v with
                 | false=>
                   rw [hb]at r10 on
                   simp only [BS,LB,Nat.reduceLT,Nat.reduceEqDiff,Tryz.FFfl144,r8,r9,r10,r12,q1,k1,k2,S.ld (b:=b13) (o:=0) m0 rfl,S.ld (b:=b13) (o:=1) m0 rfl,S.ld (b:=b13) (o:=2) m0 rfl]
                   rw [decide_eq_false (fun h=>(on.1 h).elim hnk fun h=>by cases h.1)]at hget
                   refine aq hget ?_
                   intro h9 g9;replace S:=S.call g9;clear g9
                   simp only [BS,LB,Nat.reduceLT,Nat.reduceEqDiff,Tryz.FFfl144,r12,wi]
                   exact ihi (a+1) _ _ (by omega) ⟨by omega,gG.trans S.gr,R4.gr S.gr,gF.trans S.gr,by simp [aa,r4,ab],by simp [aa,r5,ab],by simp [aa,r8,ab],by simp [aa,r9],by simp [aa,r10,hb],by simp [aa]⟩
                 | true=>
                   rw [hb]at r10 on
                   by_cases k3:p'<FAR
                   . by_cases k4:q'<FAR
                     . by_cases k5:p'=x.w+q'
                       . have ws:ao .i64 ((x.w:Int)+(q':Int))=(p':Int):=by rw [wsum,<-k5]
                         simp only [BS,LB,Nat.reduceLT,Nat.reduceEqDiff,Tryz.FFfl144,r8,r9,r10,r12,q1,z1,z2,k1,k2,k3,k4,ws,S.ld (b:=b13) (o:=0) m0 rfl,S.ld (b:=b13) (o:=1) m0 rfl,S.ld (b:=b13) (o:=2) m0 rfl]
                         rw [decide_eq_true (on.2 (.inr ⟨rfl,k3,k4,k5⟩))]at hget
                         refine aq hget ?_
                         intro h9 g9;replace S:=S.call g9;clear g9
                         simp only [BS,LB,Nat.reduceLT,Nat.reduceEqDiff,Tryz.FFfl144,r12,wi]
                         exact ihi (a+1) _ _ (by omega) ⟨by omega,gG.trans S.gr,R4.gr S.gr,gF.trans S.gr,by simp [aa,r4,ab],by simp [aa,r5,ab],by simp [aa,r8,ab],by simp [aa,r9],by simp [aa,r10,hb],by simp [aa]⟩
                       . skip
                         simp only [BS,LB,Nat.reduceLT,Nat.reduceEqDiff,Tryz.FFfl144,r8,r9,r10,r12,q1,wsum,z1,z2,k1,k2,k3,k4,k5,z3,S.ld (b:=b13) (o:=0) m0 rfl,S.ld (b:=b13) (o:=1) m0 rfl,S.ld (b:=b13) (o:=2) m0 rfl]
                         rw [decide_eq_false (fun h=>(on.1 h).elim hnk fun h=>k5 h.2.2.2)]at hget
                         refine aq hget ?_
                         intro h9 g9;replace S:=S.call g9;clear g9
                         simp only [BS,LB,Nat.reduceLT,Nat.reduceEqDiff,Tryz.FFfl144,r12,wi]
                         exact ihi (a+1) _ _ (by omega) ⟨by omega,gG.trans S.gr,R4.gr S.gr,gF.trans S.gr,by simp [aa,r4,ab],by simp [aa,r5,ab],by simp [aa,r8,ab],by simp [aa,r9],by simp [aa,r10,hb],by simp [aa]⟩
                     . skip
                       simp only [BS,LB,Nat.reduceLT,Nat.reduceEqDiff,Tryz.FFfl144,r8,r9,r10,r12,q1,z1,z2,k1,k2,k3,k4,S.ld (b:=b13) (o:=0) m0 rfl,S.ld (b:=b13) (o:=1) m0 rfl,S.ld (b:=b13) (o:=2) m0 rfl]
                       rw [decide_eq_false (fun h=>(on.1 h).elim hnk fun h=>k4 h.2.2.1)]at hget
                       refine aq hget ?_
                       intro h9 g9;replace S:=S.call g9;clear g9
                       simp only [BS,LB,Nat.reduceLT,Nat.reduceEqDiff,Tryz.FFfl144,r12,wi]
                       exact ihi (a+1) _ _ (by omega) ⟨by omega,gG.trans S.gr,R4.gr S.gr,gF.trans S.gr,by simp [aa,r4,ab],by simp [aa,r5,ab],by simp [aa,r8,ab],by simp [aa,r9],by simp [aa,r10,hb],by simp [aa]⟩
                   . skip
                     simp only [BS,LB,Nat.reduceLT,Nat.reduceEqDiff,Tryz.FFfl144,r8,r9,r10,r12,q1,z1,k1,k2,k3,S.ld (b:=b13) (o:=0) m0 rfl,S.ld (b:=b13) (o:=1) m0 rfl,S.ld (b:=b13) (o:=2) m0 rfl]
                     rw [decide_eq_false (fun h=>(on.1 h).elim hnk fun h=>k3 h.2.1)]at hget
                     refine aq hget ?_
                     intro h9 g9;replace S:=S.call g9;clear g9
                     simp only [BS,LB,Nat.reduceLT,Nat.reduceEqDiff,Tryz.FFfl144,r12,wi]
                     exact ihi (a+1) _ _ (by omega) ⟨by omega,gG.trans S.gr,R4.gr S.gr,gF.trans S.gr,by simp [aa,r4,ab],by simp [aa,r5,ab],by simp [aa,r8,ab],by simp [aa,r9],by simp [aa,r10,hb],by simp [aa]⟩
             . skip
               have hnk: ¬(x.s=v/\x.t=v):=fun h=>k1 h.1
               cases hb:jC γ (fun u=>u) v v with
               | false=>
                 rw [hb]at r10 on
                 simp only [BS,LB,Nat.reduceLT,Nat.reduceEqDiff,r8,r9,r10,r12,q2,k1,S.ld (b:=b13) (o:=0) m0 rfl,S.ld (b:=b13) (o:=1) m0 rfl,S.ld (b:=b13) (o:=2) m0 rfl]
                 rw [decide_eq_false (fun h=>(on.1 h).elim hnk fun h=>by cases h.1)]at hget
                 refine aq hget ?_
                 intro h9 g9;replace S:=S.call g9;clear g9
                 simp only [BS,LB,Nat.reduceLT,Nat.reduceEqDiff,Tryz.FFfl144,r12,wi]
                 exact ihi (a+1) _ _ (by omega) ⟨by omega,gG.trans S.gr,R4.gr S.gr,gF.trans S.gr,by simp [aa,r4,ab],by simp [aa,r5,ab],by simp [aa,r8,ab],by simp [aa,r9],by simp [aa,r10,hb],by simp [aa]⟩
               | true=>
                 rw [hb]at r10 on
                 by_cases k3:p'<FAR
                 . by_cases k4:q'<FAR
                   . by_cases k5:p'=x.w+q'
                     . have ws:ao .i64 ((x.w:Int)+(q':Int))=(p':Int):=by rw [wsum,<-k5]
                       simp only [BS,LB,Nat.reduceLT,Nat.reduceEqDiff,Tryz.FFfl144,r8,r9,r10,r12,q2,z1,z2,k1,k3,k4,ws,S.ld (b:=b13) (o:=0) m0 rfl,S.ld (b:=b13) (o:=1) m0 rfl,S.ld (b:=b13) (o:=2) m0 rfl]
                       rw [decide_eq_true (on.2 (.inr ⟨rfl,k3,k4,k5⟩))]at hget
                       refine aq hget ?_
                       intro h9 g9;replace S:=S.call g9;clear g9
                       simp only [BS,LB,Nat.reduceLT,Nat.reduceEqDiff,Tryz.FFfl144,r12,wi]
                       exact ihi (a+1) _ _ (by omega) ⟨by omega,gG.trans S.gr,R4.gr S.gr,gF.trans S.gr,by simp [aa,r4,ab],by simp [aa,r5,ab],by simp [aa,r8,ab],by simp [aa,r9],by simp [aa,r10,hb],by simp [aa]⟩
                     . skip
                       simp only [BS,LB,Nat.reduceLT,Nat.reduceEqDiff,Tryz.FFfl144,r8,r9,r10,r12,q2,wsum,z1,z2,k1,k3,k4,k5,z3,S.ld (b:=b13) (o:=0) m0 rfl,S.ld (b:=b13) (o:=1) m0 rfl,S.ld (b:=b13) (o:=2) m0 rfl]
                       rw [decide_eq_false (fun h=>(on.1 h).elim hnk fun h=>k5 h.2.2.2)]at hget
                       refine aq hget ?_
                       intro h9 g9;replace S:=S.call g9;clear g9
                       simp only [BS,LB,Nat.reduceLT,Nat.reduceEqDiff,Tryz.FFfl144,r12,wi]
                       exact ihi (a+1) _ _ (by omega) ⟨by omega,gG.trans S.gr,R4.gr S.gr,gF.trans S.gr,by simp [aa,r4,ab],by simp [aa,r5,ab],by simp [aa,r8,ab],by simp [aa,r9],by simp [aa,r10,hb],by simp [aa]⟩
                   . skip
                     simp only [BS,LB,Nat.reduceLT,Nat.reduceEqDiff,r8,r9,r10,r12,q2,z1,z2,k1,k3,k4,S.ld (b:=b13) (o:=0) m0 rfl,S.ld (b:=b13) (o:=1) m0 rfl,S.ld (b:=b13) (o:=2) m0 rfl]
                     rw [decide_eq_false (fun h=>(on.1 h).elim hnk fun h=>k4 h.2.2.1)]at hget
                     refine aq hget ?_
                     intro h9 g9;replace S:=S.call g9;clear g9
                     simp only [BS,LB,Nat.reduceLT,Nat.reduceEqDiff,Tryz.FFfl144,r12,wi]
                     exact ihi (a+1) _ _ (by omega) ⟨by omega,gG.trans S.gr,R4.gr S.gr,gF.trans S.gr,by simp [aa,r4,ab],by simp [aa,r5,ab],by simp [aa,r8,ab],by simp [aa,r9],by simp [aa,r10,hb],by simp [aa]⟩
                 . skip
                   simp only [BS,LB,Nat.reduceLT,Nat.reduceEqDiff,r8,r9,r10,r12,q2,z1,k1,k3,S.ld (b:=b13) (o:=0) m0 rfl,S.ld (b:=b13) (o:=1) m0 rfl,S.ld (b:=b13) (o:=2) m0 rfl]
                   rw [decide_eq_false (fun h=>(on.1 h).elim hnk fun h=>k3 h.2.1)]at hget
                   refine aq hget ?_
                   intro h9 g9;replace S:=S.call g9;clear g9
                   simp only [BS,LB,Nat.reduceLT,Nat.reduceEqDiff,Tryz.FFfl144,r12,wi]
                   exact ihi (a+1) _ _ (by omega) ⟨by omega,gG.trans S.gr,R4.gr S.gr,gF.trans S.gr,by simp [aa,r4,ab],by simp [aa,r5,ab],by simp [aa,r8,ab],by simp [aa,r9],by simp [aa,r10,hb],by simp [aa]⟩
           . simp only [BS,LB,ae,Nat.reduceLT,Nat.reduceEqDiff,Tryz.FFfl144,r4,r9,r12,gaC.lenq,l43,aG,hat,w]
             exact ih (v+1) _ _ (by omega) ⟨by omega,gG,R4,gF,by simp [aa,r4,ab],by simp [aa,r5,ab],by simp [aa,r8,ab],by simp [aa]⟩
         . exact⟨xo _,gG,R4,gF,by simp [aa,r4,ab],by simp [aa,r5,ab],by simp [aa,r8,ab],by simp [aa,r9],by simp [aa,r10],by simp [aa]⟩
     . exact⟨xo _,gG,R4,gF,by simp [aa,r4,ab],by simp [aa,r5,ab],by simp [aa,r8,ab],by simp [aa,r9],by simp [aa,borK],by simp [aa]⟩
   . simp only [BS,LB,ae,Nat.reduceLT,Nat.reduceEqDiff,Tryz.FFfl144,r4,r9,aG,hv,l40]
     exact g0.trans gG
 . exact⟨xo _,S.gr,S.row m0,gF,by simp [aa,ab],by simp [aa,ab],by simp [aa,ab],by simp [aa]⟩
end Go.Ab
end
section
namespace Go.Ab
open Go.ChangeShapes Go.WideShapes Go.RowKit
theorem rowAt_le{P:Program}{fits:TypeId->Bool}{d:Nat}{e:TypeId}{count off n:Nat}(h:rowAt P fits d e count off n=true):off<=count*P.cellsOf e:=by
 cases d with
 |zero=>cases h
 | succ d=>
   unfold rowAt at h
   simp only []at h
   split at h
   . cases h
   . rename_i hs
     have hpos:0<P.cellsOf e:=by omega
     have hdm:=Nat.div_add_mod off (P.cellsOf e)
     simp only [Bool.or_eq_true,Bool.and_eq_true,beq_iff_eq,decide_eq_true_eq]at h
     rcases h with⟨⟨h1,h2⟩,_⟩|⟨h1,_⟩
     . have:P.cellsOf e*(off/P.cellsOf e)<=P.cellsOf e*count:=Nat.mul_le_mul_left _ (by omega)
       rw [Nat.mul_comm count];omega
     . have:P.cellsOf e*(off/P.cellsOf e+1)<=P.cellsOf e*count:=Nat.mul_le_mul_left _ (by omega)
       have hlt:=Nat.mod_lt off hpos
       rw [Nat.mul_add,Nat.mul_one]at this
       rw [Nat.mul_comm count];omega
theorem liesAt_le{P:Program}{d:Nat}: ∀{e:TypeId} {count off:Nat} {u:TypeId} {n:Nat},liesAt P d e count off u n=true->off<=count*P.cellsOf e:=by
 induction d with
 |zero=>intro e count off u n h;cases h
 | succ d ih=>
   intro e count off u n h
   unfold liesAt at h
   rw [Bool.or_eq_true]at h
   rcases h with h|h
   . exact rowAt_le h
   . split at h
     . exact ih h
     . cases h
theorem has_W{P:Program}{W:World}{r:_root_.Go.Reach}{base:Nat}{a:Addr}{e:TypeId}{n:Nat}(h:W.has P r base a e n):a.spot=none/\a.block<W.heap.size/\ ∃l,(hpW W).load (a.block+16) a.off 0=some l:=by
 obtain⟨_,hsp,row,cells,hsh,hl⟩:=h
 have hle:=liesAt_le hl
 have hle2:a.off<=cells:=Nat.le_trans hle (Nat.div_mul_le_self _ _)
 unfold World.shape? at hsh
 split at hsh
 next cs el fz ho=>
  cases hsh
  have hlt:=(Array.getElem?_eq_some_iff.1 ho).1
  have hr:Row (hpW W) (a.block+16) (cs.toList.map (je W.heap.size)) 0:=⟨_,_,by rw [ow,ho];rfl,Tr.sized_ofList _,fun j=>Tr.get_ofList _ j⟩
  exact⟨hsp,hlt,_,hr.load (o:=a.off) (n:=0) (by simpa using hle2)⟩
 . cases hsh
section
variable{H:Type}{enc:TypeId×Value->H}{P:Program}
theorem rE{W:World}{base fuel:Nat}{s e:TypeId}{k:IntKind}{c:Value}{sp:Nat->Bool}{hd:Bool}{x:DataW H×List MemPlace}(hs:P.underlying s=some (.slice e))(he:P.underlying e=some (.int k))(hc:P.cellsOf e=1)
 (hok:Cell.okWide P W .any base s c) (h:DataW.trod enc P W 0 sp hd fuel s [c]=some x): ∃zs:List Int,SlW (hpW W) k (je W.heap.size c) zs/\(∀z∈zs,(Lit.int k z).wf=true)/\zs.length<=9223372036854775807:=by
 rcases Go.ChangeShapes.open_ints hs he hc h with⟨e1,_⟩|⟨a,len,cap,zs,e1,hb,hl,hm,hz,_,hcell,hwf⟩
 . cases e1
   exact⟨[],.inl ⟨rfl,rfl⟩,fun z hz=>(by cases hz),by simp⟩
 . cases e1
   unfold Cell.okWide at hok
   rw [hs]at hok
   simp only [Cell.ok,hs]at hok
   obtain⟨hle1,hmax,hhas⟩:=hok
   obtain⟨hsp,hlt,h0⟩:=has_W hhas
   have hlz:len<=zs.length:=by rw [hz];split<;>omega
   refine⟨zs.take len,.inr ⟨a.block+16,a.off,cap,?_,?_,?_⟩,fun z hz=>hwf z (List.mem_of_mem_take hz),by
    have:(cap:Int)<=9223372036854775807:=hmax
    rw [xf];omega⟩
   . rw [xf,xg hlz]
     simp only [je,if_pos hl,if_pos (And.intro hsp hlt)]
   . rw [xf,xg hlz];exact hl
   . rw [xf,xg hlz,Nat.mul_one]
     rw [load_join (f:=fun i=>.int k (zs.getD i 0)) h0 (fun i hi=>load_W hsp (hcell i (by omega)))]
     congr 1
     have e4: ∀l:List Int,l.flatMap (encI k)=l.map fun x=>.int k x:=fun l=>by
      rw [xh,List.map_eq_flatMap,xh];rfl
     rw [e4]
     refine List.ext_getElem? fun i=>?_
     rw [List.getElem?_map,List.getElem?_map,List.getElem?_take]
     by_cases hi:i<len
     . rw [if_pos hi,List.getElem?_range hi,List.getElem?_eq_getElem (show i<zs.length by omega)]
       simp [xd,show i<zs.length by omega]
     . rw [if_neg hi,List.getElem?_eq_none (by simpa using hi)];rfl
theorem open_slV{W:World}{base:Nat}{s e:TypeId}{k:IntKind}{v:Value}{sp:Nat->Bool}{hd:Bool}{d:DataW H}{p:List MemPlace}(hs:P.underlying s=some (.slice e))(he:P.underlying e=some (.int k))(hc:P.cellsOf e=1)
 (hval:Value.okWide P W .any base s v) (h:DataW.Trod enc P W 0 sp hd s v d p): ∃zs:List Int,SlW (hpW W) k (absA W.heap.size v) zs/\(∀z∈zs,(Lit.int k z).wf=true)/\zs.length<=9223372036854775807:=by
 unfold Value.okWide at hval
 rw [hs]at hval
 obtain⟨fuel,h⟩:=h
 have hc0: ∀l:Array Value,v≠ .agg l:=by
  rintro l rfl
  simp only [Cell.okWide,hs,Cell.ok]at hval
 have hcs:v.cells.toList=[v]:=by cases v<;>first|rfl|exact absurd rfl (hc0 _)
 rw [hcs]at h
 have ha:absA W.heap.size v=je W.heap.size v:=by cases v<;>first|rfl|exact absurd rfl (hc0 _)
 rw [ha]
 exact rE hs he hc hval h
theorem open_sl2{W:World}{base:Nat}{t s e:TypeId}{k:IntKind}{f0 f1:Field}{v:Value}{sp:Nat->Bool}{hd:Bool}{d:DataW H}{p:List MemPlace}(ht:P.underlying t=some (.struct #[f0,f1]))(o0:f0.offset=0)(o1:f1.offset=1)(t0:f0.type=s)(t1:f1.type=s)
 (hs:P.underlying s=some (.slice e)) (he:P.underlying e=some (.int k)) (hc:P.cellsOf e=1) (hcs:P.cellsOf s=1) (hct:P.cellsOf t=2) (hts:P.cellTypes P.depth t=some [s,s])
 (hval:Value.okWide P W .any base t v) (h:DataW.Trod enc P W 0 sp hd t v d p):
 ∃(c0 c1:Value) (xs ys:List Int),v=.agg #[c0,c1]/\SlW (hpW W) k (je W.heap.size c0) xs/\SlW (hpW W) k (je W.heap.size c1) ys/\(∀z∈xs,(Lit.int k z).wf=true)/\ ∀z∈ys,(Lit.int k z).wf=true:=by
 unfold Value.okWide at hval
 rw [ht]at hval
 obtain⟨cs,rfl,hsz,ts,e1,_,hrow⟩:=hval
 rw [hts]at e1
 cases e1
 rw [hct]at hsz
 obtain⟨l⟩:=cs
 simp only [List.size_toArray]at hsz
 obtain⟨c0,c1,rfl⟩:=len2 hsz
 obtain⟨fuel,h⟩:=h
 obtain⟨y0,y1,n,_,_,h1,h2⟩:=Go.ChangeShapes.trod_struct2 ht h
 rw [o0,t0,hcs]at h1
 rw [o1,t1,hcs]at h2
 obtain⟨u0,e0,k0⟩:=hrow 0 c0 rfl
 obtain⟨u1,e1,k1⟩:=hrow 1 c1 rfl
 cases e0
 cases e1
 obtain⟨xs,hx,wx,_⟩:=rE hs he hc k0 h1
 obtain⟨ys,hy,wy,_⟩:=rE hs he hc k1 h2
 exact⟨c0,c1,xs,ys,rfl,hx,hy,wx,wy⟩
end
end Go.Ab

end

/- Nets, cells, flags: what the functions do (part 4). -/
import Derived.Test.YtdjlnmjcdmnllaaGreatDoorNetC
open List renaming range->yr,getD_eq_getElem?_getD->yu,getElem?_eq_getElem->yv,getElem_mem->yy,getElem?_map->yA,take_succ_eq_append_getElem->yB,take->yD,drop->yE,flatMap_eq_foldl->yG,length_map->yI,length_range->yK,getElem?_append_left->yL,replicate->yN,not_mem_nil->yO,take_length->yP,mem_cons_of_mem->yQ,getElem?_append_right->yR,set_cons_zero->yT,mem_cons->yW,map_const'->yX,mem_append->yZ,map_eq_flatMap->y8,drop_zero->y9,filterMap_nil->za,set_cons_succ->ze,length_append->zg,mem_singleton->zh,map_cons->zj,drop_eq_getElem_cons->zn,append_nil->zx,take_of_length_le->zA,perm_append_comm->zB,all_cons->zE,filterMap_cons->zF,getElem_of_mem->zG,flatMap_append->zH,map_nil->zI,all_nil->zJ
open Go.Ab.Tryz renaming abEnv->yt,u38->zo,e3E->zq,s246->zz,s49->zD
open Nat renaming lt_of_lt_of_le->yw,le_trans->yx,lt_of_succ_le->yz,zero_le->yH,le_refl->yJ,zero_add->yM,zero_mul->yS,mul_one->yU,one_mul->yV,zero_ne_one->yY,add_sub_cancel_left->zw,mul_le_mul_right->zC
open Int renaming toNat_natCast->yC,tdiv_eq_ediv_of_nonneg->zi
open Bool renaming and_true->yF
open Function renaming comp_def->zm
open Option renaming getD_some->zt,getD_none->zu
set_option maxHeartbeats 4000000
set_option linter.defProp false
set_option linter.unusedVariables false
set_option linter.unusedSimpArgs false
section
namespace Go.Ab
open Go.Proofs
set_option maxRecDepth 10000
open Tryz in
def Tryz.FFfl155:=aj a1<|aj s1<|aj z1<|aj n1<|aj u2<|aj a2<|aj s2<|aj z2<|aj i2<|aj u3<|aj a3<|aj s3<|aj z3<|aj i3<|aj u4<|aj a4<|aj s4<|aj z4<|aj n4<|aj u5<|aj a5<|aj s5<|aj z5<|aj i5<|aj u6<|aj a6<|aj s6<|aj z6<|aj i6<|aj u22<|aj a22<|aj s22<|aj z22<|aj q22<|aj n22<|aj u34<|aj a34<|aj s34<|aj z34<|aj q34<|aj i34<|aj n34<|aj a115<|aj s115<|aj z115<|aj i115<|aj n115<|aj p115<|aj ff115<|d115
open Tryz in
def Tryz.FFfl164:=aj a1<|aj s1<|aj z1<|aj n1<|aj u4<|aj a4<|aj s4<|aj z4<|aj n4<|aj u5<|aj a5<|aj s5<|aj z5<|aj i5<|aj u121<|aj a121<|aj s121<|aj z121<|aj q121<|aj i121<|n121
open Tryz in
def Tryz.FFfl1124:=aj a1<|aj s1<|aj z1<|aj n1<|aj u2<|aj a2<|aj s2<|aj z2<|aj i2<|aj u3<|aj a3<|aj s3<|aj z3<|aj i3<|aj u4<|aj a4<|aj s4<|aj z4<|aj n4<|aj u5<|aj a5<|aj s5<|aj z5<|aj i5<|aj u121<|aj a121<|aj s121<|aj z121<|aj q121<|aj i121<|n121
def ii(n:Nat)(B:Nat->Nat):List Value:=(yr n).map fun j=>.int .u8 (B j:Nat)
theorem um{n:Nat}{B:Nat->Nat}:(ii n B).length=n:=by simp [ii]
theorem sF{n j:Nat}{B:Nat->Nat}(h:j<n):(ii n B)[j]? =some (.int .u8 (B j:Nat)):=gT (F:=fun j=>Value.int .u8 ((B j:Nat):Int)) h
theorem vJ{n j x:Nat}{B:Nat->Nat}:(ii n B).set j (.int .u8 (x:Nat))=ii n (bM B j x):=by
 have:=gC (N:=n) (k:=j) (F:=fun j=>Value.int .u8 ((B j:Nat):Int)) (F':=fun u=>Value.int .u8 ((bM B j x u:Nat):Int)) (fun i _ hi=>by simp [bM,hi])
 unfold ii
 rw [<-this];simp [bM]
structure gJ(h:Hp)(bp bb rows wide long:Nat)(B:Nat->Nat):Prop where
 r:Row h bp [.int .i64 rows,.int .i64 wide,.int .i64 long,.slice (some ⟨bb,0,none⟩) (rows*long) (rows*long)] 1
 b:Row h bb (ii (rows*long) B) 1
 lt: ∀j,B j<256
theorem gJ.gr{h h':Hp}{bp bb rows wide long:Nat}{B:Nat->Nat}(m:gJ h bp bb rows wide long B)(g:Gr h h'):gJ h' bp bb rows wide long B:=⟨m.r.gr g,m.b.gr g,m.lt⟩
theorem gJ.bits{h:Hp}{bp bb rows wide long:Nat}{B:Nat->Nat}(m:gJ h bp bb rows wide long B):mD h (ptrTo bp) rows wide true:=.inr ⟨bp,_,_,rfl,m.r,rfl⟩
def dH(B:Nat->Nat)(long r i:Nat):Bool:=(B (r*long+i/8)).testBit (i%8)
theorem bitB_set{B:Nat->Nat}{long r i r' i':Nat}(h1:i/8<long)(h2:i'/8<long):dH (bM B (r*long+i/8) (setB (B (r*long+i/8)) (i%8))) long r' i'=if r'=r/\i'=i then true else dH B long r' i':=by
 unfold dH bM
 by_cases e:r'*long+i'/8=r*long+i/8
 . rw [if_pos e,setB_at]
   have er:r'=r:=by
    have a:(r'*long+i'/8)/long=(r*long+i/8)/long:=by rw [e]
    rw [Nat.mul_comm r',Nat.mul_comm r,Nat.mul_add_div (by omega),Nat.mul_add_div (by omega),Nat.div_eq_of_lt h1,Nat.div_eq_of_lt h2]at a
    omega
   subst er
   have e8:i'/8=i/8:=by omega
   rw [e]
   by_cases em:i'%8=i%8
   . rw [if_pos em,if_pos ⟨rfl,by omega⟩]
   . rw [if_neg em,if_neg (fun h=>em (by rw [h.2]))]
 . rw [if_neg e,if_neg (fun h=>e (by rw [h.1,h.2]))]
theorem bmNew_ok{h0:Hp}(ok:h0.t.Sized h0.n){a w:Nat}(ha:a<=100)(hw:w<=1000):Ret yt 55 [.int .i64 (a:Nat),.int .i64 (w:Nat)] h0 fun r h'=>Gr h0 h'/\ ∃bp bb,r=ptrTo bp/\h0.n<=bp/\h0.n<=bb/\bp≠bb/\gJ h' bp bb a w ((w+7)/8) (fun _=>0):=by
 have S:=Si ok
 have f1: ¬((a:Int)<0):=by omega
 have f2: ¬((w:Int)<0):=by omega
 have f3: ¬((67108864:Int)<(w:Int)):=by omega
 have w1:aq .i64 ((w:Int)+8)=(w:Int)+8:=by rw [wrap64]<;>omega
 have w2:aq .i64 ((w:Int)+8-1)=((w+7:Nat):Int):=by rw [wrap64]<;>omega
 have hk:(w+7)/8<=126:=by omega
 have w3:aq .i64 ((((w+7:Nat):Int)).tdiv 8)=(((w+7)/8:Nat):Int):=by
  rw [zi (by omega),show(((w+7:Nat):Int)/8)=(((w+7)/8:Nat):Int) by omega,wrap64]<;>omega
 generalize hK:(w+7)/8=K at hk w3
 have hm:a*K<=100*126:=Nat.mul_le_mul ha hk
 have w5:aq .i64 ((a:Int)*(K:Int))=((a*K:Nat):Int):=by rw [<-Int.natCast_mul,wrap64]<;>omega
 have mk: ∀(n:Nat),aT [Value.int .u8 0] n=ii n (fun _=>0):=fun n=>by
  rw [kU]
  unfold ii
  rw [yX,yK]
  rfl
 by_cases k0:0<(K:Int)
 . have hd:(268435456:Int).tdiv (K:Int)=((268435456/K:Nat):Int):=by
    rw [zi (by decide)];rfl
   have h1:268435456/126<=268435456/K:=Nat.div_le_div_left hk (by omega)
   have h2:268435456/K<=268435456:=Nat.div_le_self _ _
   have h3:(268435456/126:Nat)=2130440:=rfl
   have w4:aq .i64 ((268435456:Int).tdiv (K:Int))=(268435456:Int).tdiv (K:Int):=by rw [hd,wrap64]<;>omega
   have f4: ¬((268435456:Int).tdiv (K:Int)<(a:Int)):=by omega
   have f5:(K:Int)≠0:=by omega
   refine ac (n:=37) (rs:=[.tmp 4]) rfl Tryz.e55 rfl rfl rfl (lbt rfl) ?_
   simp only [BS,LB,Nat.reduceLT,Nat.reduceEqDiff,f1,f2,f3,w1,w2,w3,w4,w5,k0,f4,lh (n:=8) (by decide),lh (n:=(K:Int)) f5]
   refine ag (ja (by exact Tryz.u22) (by exact Tryz.e5E) (by omega) (by omega)) S ?_;clear S;intro h bb S n_bb
   rw [yC,mk]at S
   simp only [BS,LB,Nat.reduceLT,Nat.reduceEqDiff,Nat.reduceAdd,Tryz.FFfl155,yC]
   refine ag (bE (by intro x e;cases e)) S ?_;clear S;intro h bp S n_bp;simp only [ah]at S
   simp only [BS,LB,ae,Nat.reduceLT,Nat.reduceEqDiff]
   have ap:=S.apart
   exact⟨S.gr,bp,bb,rfl,by have:=S.fr.n;omega,n_bb,fun e=>(by subst e;simp [keys]at ap),⟨S.row m0,S.row m1,fun _=>Nat.zero_lt_succ _⟩⟩
 . refine ac (n:=37) (rs:=[.tmp 4]) rfl Tryz.e55 rfl rfl rfl (lbt rfl) ?_
   simp only [BS,LB,Nat.reduceLT,Nat.reduceEqDiff,f1,f2,f3,w1,w2,w3,w5,k0,lh (n:=8) (by decide)]
   refine ag (ja (by exact Tryz.u22) (by exact Tryz.e5E) (by omega) (by omega)) S ?_;clear S;intro h bb S n_bb
   rw [yC,mk]at S
   simp only [BS,LB,Nat.reduceLT,Nat.reduceEqDiff,Nat.reduceAdd,Tryz.FFfl155,yC]
   refine ag (bE (by intro x e;cases e)) S ?_;clear S;intro h bp S n_bp;simp only [ah]at S
   simp only [BS,LB,ae,Nat.reduceLT,Nat.reduceEqDiff]
   have ap:=S.apart
   exact⟨S.gr,bp,bb,rfl,by have:=S.fr.n;omega,n_bb,fun e=>(by subst e;simp [keys]at ap),⟨S.row m0,S.row m1,fun _=>Nat.zero_lt_succ _⟩⟩
theorem get1_ok{h0:Hp}(ok:h0.t.Sized h0.n){bb j x i:Nat}(l:h0.load bb j 1=some [.int .u8 (x:Nat)])(hx:x<256)(hi:i<8):bF yt 64 [.pointer (some ⟨bb,j,none⟩),.int .u8 ((2 ^i:Nat):Int)] h0 (.bool (x.testBit i)):=by
 have S:=Si ok
 cases ht:x.testBit i with
 | true=>
   have k0: ¬(((x&&& 2 ^i:Nat)):Int)=0:=fun e=>by
    have:(x&&& 2 ^i)=0:=by omega
    rw [and_pow,ht]at this;cases this
   refine ac (n:=11) (rs:=[.tmp 4]) rfl Tryz.e64 rfl rfl rfl (lbt rfl) ?_
   simp only [BS,LB,ae,Nat.reduceLT,Nat.reduceEqDiff,Tryz.FFfl164,l,b_and8 hx (pow8 hi),k0]
   exact S.gr
 | false=>
   have k0:(((x&&& 2 ^i:Nat)):Int)=0:=by
    have:=and_pow.2 ht
    omega
   refine ac (n:=11) (rs:=[.tmp 4]) rfl Tryz.e64 rfl rfl rfl (lbt rfl) ?_
   simp only [BS,LB,ae,Nat.reduceLT,Nat.reduceEqDiff,Tryz.FFfl164,l,b_and8 hx (pow8 hi),k0]
   exact S.gr
theorem set1_ok{h0:Hp}(ok:h0.t.Sized h0.n){bb b7 j n i:Nat}{B:Nat->Nat}(R:Row h0 bb (ii n B) 1)(hj:j<n)(hB:B j<256)(hi:i<8)(l7:h0.load b7 0 1=some [.bool true])(hne:b7≠bb):
 Ret yt 124 [.pointer (some ⟨bb,j,none⟩),.int .u8 ((2 ^i:Nat):Int),ptrTo b7] h0 fun r h'=>Mo (· =bb) h0 h'/\r=.bool true/\Row h' bb (ii n (bM B j (setB (B j) i))) 1:=by
 have S:=St.init1 ok (o:=.row (ii n B) 1) R
 have lx:=S.ld (b:=bb) (o:=j) m0 (sF hj)
 have hx:=pow8 hi
 have hy:(B j ^^^(B j&&& 2 ^i))<256:=Nat.xor_lt_two_pow (n:=8) hB (Nat.lt_of_le_of_lt Nat.and_le_left hB)
 refine ac (n:=19) (rs:=[.tmp 5]) rfl Tryz.e124 rfl rfl rfl (lbt rfl) ?_
 simp only [BS,LB,Nat.reduceLT,Nat.reduceEqDiff,Tryz.FFfl1124,lx,b_andNot8 hB hx]
 refine aA (aB S (i:=0) rfl Tryz.s5 bu (by rw [um];exact hj) ono) ?_
 clear S lx;rintro h ⟨S,mo⟩
 simp only [LC]at S
 rw [vJ]at S
 have ly:=S.ld (b:=bb) (o:=j) m0 (sF hj)
 have e1:bM B j (B j ^^^(B j&&& 2 ^i)) j=(B j ^^^(B j&&& 2 ^i)):=by simp [bM]
 rw [e1]at ly
 have l7':=S.old l7 hne
 simp only [BS,LB,Nat.reduceLT,Nat.reduceEqDiff,Tryz.FFfl1124,l7',ly,b_or8 hy hx]
 refine aA (aB S (i:=0) rfl Tryz.s5 bu (by rw [um];exact hj) ono) ?_
 clear S ly;rintro h ⟨S,mo⟩
 simp only [LC]at S
 rw [show(((B j ^^^(B j&&& 2 ^i))|||2 ^i:Nat):Int)=((setB (B j) i:Nat):Int)from rfl,vJ]at S
 have e2:bM (bM B j (B j ^^^(B j&&& 2 ^i))) j (setB (B j) i)=bM B j (setB (B j) i):=by
  funext u;unfold bM;split<;>rfl
 rw [e2]at S
 simp only [BS,LB,ae,Nat.reduceLT,Nat.reduceEqDiff]
 exact⟨S.fr,S.row m0⟩
end Go.Ab
end
section
namespace Go.Ab
open Go.Proofs
set_option maxRecDepth 10000
open Tryz in
def Tryz.FFfl263:=aj a1<|aj s1<|aj z1<|aj n1<|aj u2<|aj a2<|aj s2<|aj z2<|aj i2<|aj u3<|aj a3<|aj s3<|aj z3<|aj i3<|aj u4<|aj a4<|aj s4<|aj z4<|aj n4<|aj u5<|aj a5<|aj s5<|aj z5<|aj i5<|aj u22<|aj a22<|aj s22<|aj z22<|aj q22<|aj n22<|aj u34<|aj a34<|aj s34<|aj z34<|aj q34<|aj i34<|aj n34<|aj a115<|aj s115<|aj z115<|aj i115<|aj n115<|aj p115<|aj ff115<|aj d115<|aj u121<|aj a121<|aj s121<|aj z121<|aj q121<|aj i121<|aj n121<|aj a122<|aj s122<|aj z122<|n122
open Tryz in
def Tryz.FFfl2128:=aj a1<|aj s1<|aj z1<|aj n1<|aj u2<|aj a2<|aj s2<|aj z2<|aj i2<|aj u3<|aj a3<|aj s3<|aj z3<|aj i3<|aj u4<|aj a4<|aj s4<|aj z4<|aj n4<|aj u22<|aj a22<|aj s22<|aj z22<|aj q22<|aj n22<|aj u34<|aj a34<|aj s34<|aj z34<|aj q34<|aj i34<|aj n34<|aj a115<|aj s115<|aj z115<|aj i115<|aj n115<|aj p115<|aj ff115<|aj d115<|aj a124<|aj s124<|aj z124<|n124
open Tryz in
def Tryz.FFfl222:=aj a1<|aj s1<|aj z1<|aj n1<|aj u2<|aj a2<|aj s2<|aj z2<|aj i2<|aj u3<|aj a3<|aj s3<|aj z3<|aj i3<|aj u4<|aj a4<|aj s4<|aj z4<|aj n4<|aj u9<|aj a9<|aj s9<|aj z9<|aj n9<|aj u22<|aj a22<|aj s22<|aj z22<|aj q22<|aj n22<|aj u34<|aj a34<|aj s34<|aj z34<|aj q34<|aj i34<|aj n34<|aj u38<|aj a38<|aj s38<|aj z38<|aj q38<|aj n38<|aj a110<|aj s110<|aj z110<|aj n110<|aj a115<|aj s115<|aj z115<|aj i115<|aj n115<|aj p115<|aj ff115<|d115
section
variable{h0:Hp}{bp bb rows wide long:Nat}{B:Nat->Nat}
theorem rq{r i:Nat}(hr:r<rows)(hi:i<wide)(hrows:rows<=100)(hwide:wide<=1000)(hlong:long=(wide+7)/8):
 aq .i64 ((r:Int)*(long:Int))=((r*long:Nat):Int)/\aq .i64 ((i:Int).tdiv 8)=((i/8:Nat):Int)/\aq .i64 (((r*long:Nat):Int)+((i/8:Nat):Int))=((r*long+i/8:Nat):Int)/\(i:Int).tmod 8=((i%8:Nat):Int)/\r*long+i/8<rows*long/\i/8<long/\i%8<8:=by
 have hL:long<=126:=by omega
 have h1:r*long<=100*126:=Nat.mul_le_mul (by omega) hL
 have hi8:i/8<long:=by omega
 have h2:r*long+long<=rows*long:=by
  rw [<-Nat.succ_mul];exact zC _ hr
 refine⟨by rw [<-Int.natCast_mul,wrap64]<;>omega,?_,by rw [wrap64]<;>omega,rfl,by omega,hi8,by omega⟩
 rw [show(i:Int).tdiv 8=((i/8:Nat):Int)from rfl,wrap64]<;>omega
theorem pS(ok:h0.t.Sized h0.n)(m:gJ h0 bp bb rows wide long B){r i:Nat}(hr:r<rows)(hi:i<wide)(hrows:rows<=100)(hwide:wide<=1000)(hlong:long=(wide+7)/8):
 bF yt 24 [ptrTo bp,.int .i64 (r:Nat),.int .i64 (i:Nat)] h0 (.bool (dH B long r i)):=by
 obtain⟨n1,n2,n3,n4,n5,n6,n7⟩:=rq hr hi hrows hwide hlong
 have pl: ∀{h:Hp},Gr h0 h->bF yt 63 [ptrTo bp,.int .i64 (r:Nat),.int .i64 (i:Nat),.func (.func 64) #[] #[]] h (.bool (dH B long r i)):=by
  intro h g
  have S:=Si g.ok
  have mh:=m.gr g
  have c1: ¬(r:Int)<0:=by omega
  have c2: ¬(rows:Int)<=(r:Int):=by omega
  have c3: ¬(i:Int)<0:=by omega
  have c4: ¬(wide:Int)<=(i:Int):=by omega
  have l2:=mh.r.load1 (o:=2) rfl
  have l3:=mh.r.load1 (o:=3) rfl
  have lx:=mh.b.load1 (sF n5)
  have zp:=mh.r.lt g.ok
  refine ac (n:=46) (rs:=[.tmp 8]) rfl Tryz.e63 rfl rfl rfl (lbt rfl) ?_
  simp only [BS,LB,Nat.reduceLT,Nat.reduceEqDiff,c1]
  refine ar (iA S.ok mh.bits) ?_;intro h1 g1;replace S:=S.call g1
  simp only [BS,LB,Nat.reduceLT,Nat.reduceEqDiff,c2,c3]
  refine ar (iK S.ok (mh.gr g1).bits) ?_;intro h2 g2;replace S:=S.call g2
  have g12:=g1.trans g2
  have k2:=g12.load l2
  have k3:=g12.load l3
  simp only [BS,LB,Nat.reduceLT,Nat.reduceEqDiff,c4]
  refine ay (aF rfl) (q:=0) (ps:=[]) (by kernel_rfl) ?_
  simp only [BS,LB,cls,Nat.reduceLT,Nat.reduceEqDiff,Nat.reduceAdd,Nat.reducePow,Nat.reduceDiv,Nat.reduceMod,Nat.reduceLeDiff,Tryz.FFfl263,k2,k3,n1,n2,n3,n4,n5,lh (n:=8) (by decide),mN (n:=8) (by decide),b_shl8 n7]
  refine cy (get1_ok S.ok (g12.load lx) (mh.lt _) n7) ?_
  intro h3 g3
  have v:=az g3 (yw zp g12.n)
  replace S:=S.call g3
  simp only [BS,LB,cls,ae,Nat.reduceLT,Nat.reduceEqDiff,Nat.reduceAdd,Nat.reducePow,Nat.reduceDiv,Nat.reduceMod,Nat.reduceLeDiff]
  exact⟨rfl,S.gr⟩
 have S:=Si ok
 refine ac (n:=11) (rs:=[.tmp 6]) rfl Tryz.e24 rfl rfl rfl (lbt rfl) ?_
 simp only [BS,LB,Nat.reduceLT,Nat.reduceEqDiff]
 refine ar (pl (Gr.refl ok)) ?_
 intro h g
 simp only [BS,LB,ae,Nat.reduceLT,Nat.reduceEqDiff]
 exact g
theorem bSet_ok(ok:h0.t.Sized h0.n)(m:gJ h0 bp bb rows wide long B)(hne:bp≠bb){r i:Nat}(hr:r<rows)(hi:i<wide)(hrows:rows<=100)(hwide:wide<=1000)(hlong:long=(wide+7)/8):
 Ret yt 58 [ptrTo bp,.int .i64 (r:Nat),.int .i64 (i:Nat),.bool true] h0 fun v h'=>Mo (· =bb) h0 h'/\v=.bool true/\gJ h' bp bb rows wide long (bM B (r*long+i/8) (setB (B (r*long+i/8)) (i%8))):=by
 obtain⟨n1,n2,n3,n4,n5,n6,n7⟩:=rq hr hi hrows hwide hlong
 have pl: ∀{h:Hp} {b7:Nat},Gr h0 h->h.load b7 0 1=some [.bool true]->b7≠bb->Ret yt 63 [ptrTo bp,.int .i64 (r:Nat),.int .i64 (i:Nat),.func (.func 124) #[] #[ptrTo b7]] h fun v h'=>Mo (· =bb) h h'/\v=.bool true/\Row h' bb (ii (rows*long) (bM B (r*long+i/8) (setB (B (r*long+i/8)) (i%8)))) 1:=by
  intro h b7 g l7 h7
  have S:=Si g.ok
  have mh:=m.gr g
  have c1: ¬(r:Int)<0:=by omega
  have c2: ¬(rows:Int)<=(r:Int):=by omega
  have c3: ¬(i:Int)<0:=by omega
  have c4: ¬(wide:Int)<=(i:Int):=by omega
  have l2:=mh.r.load1 (o:=2) rfl
  have l3:=mh.r.load1 (o:=3) rfl
  have zp:=mh.r.lt g.ok
  refine ac (n:=46) (rs:=[.tmp 8]) rfl Tryz.e63 rfl rfl rfl (lbt rfl) ?_
  simp only [BS,LB,Nat.reduceLT,Nat.reduceEqDiff,c1]
  refine ar (iA S.ok mh.bits) ?_;intro h1 g1;replace S:=S.call g1
  simp only [BS,LB,Nat.reduceLT,Nat.reduceEqDiff,c2,c3]
  refine ar (iK S.ok (mh.gr g1).bits) ?_;intro h2 g2;replace S:=S.call g2
  have g12:=g1.trans g2
  have k2:=g12.load l2
  have k3:=g12.load l3
  simp only [BS,LB,Nat.reduceLT,Nat.reduceEqDiff,c4]
  refine ay (aF rfl) (q:=0) (ps:=[]) (by kernel_rfl) ?_
  simp only [BS,LB,cls,Nat.reduceLT,Nat.reduceEqDiff,Nat.reduceAdd,Nat.reducePow,Nat.reduceDiv,Nat.reduceMod,Nat.reduceLeDiff,Tryz.FFfl263,k2,k3,n1,n2,n3,n4,n5,lh (n:=8) (by decide),mN (n:=8) (by decide),b_shl8 n7]
  refine dp (set1_ok S.ok (mh.b.gr g12) n5 (mh.lt _) n7 (g12.load l7) h7) ?_
  rintro v h3 ⟨f3,rfl,R3⟩
  have vv:leaves h2 h3 bp=true:=nu (f3.get bp (yw zp g12.n) hne)
  simp only [BS,LB,cls,ae,Nat.reduceLT,Nat.reduceEqDiff,Nat.reduceAdd,Nat.reducePow,Nat.reduceDiv,Nat.reduceMod,Nat.reduceLeDiff]
  exact⟨(g12.fr (M:=(· =bb))).trans f3 (fun c hc=>.inl hc),R3⟩
 have S:=Si ok
 have zb:=m.b.lt ok
 refine ac (n:=14) (rs:=[.tmp 8]) rfl Tryz.e58 rfl rfl rfl (lbt rfl) ?_
 simp only [BS,Nat.reduceLT]
 refine ag (cC (by exact mr)) S ?_;clear S;intro h b7 S n_b7
 simp only [BS,LB,Nat.reduceLT,Nat.reduceEqDiff]
 have k7:=S.fr.n
 refine step_ret (pl S.gr (S.ld m0 rfl) (by omega)) ?_
 rintro v h ⟨f,rfl,R⟩
 simp only [BS,LB,ae,Nat.reduceLT,Nat.reduceEqDiff]
 have f':Mo (· =bb) h0 h:=(S.gr.fr (M:=(· =bb))).trans f (fun c hc=>.inl hc)
 refine⟨f',f'.has (o:=.row _ 1) m.r hne,R,fun j=>?_⟩
 unfold bM
 split
 . exact setB_lt (m.lt _) n7
 . exact m.lt _
end
theorem eB{n:Nat}{f:Nat->Bool}:(yr (n+1)).filter f=(yr n).filter f++if f n=true then [n]else []:=by
 rw [List.range_succ,List.filter_append]
 congr 1
 by_cases h:f n=true
 . simp [h]
 . simp [h]
theorem pj{f:Nat->Bool}{i:Nat}(h:f i=true): ∀n,i<n->((yr n).filter f)[((yr i).filter f).length]? =some i:=by
 intro n
 induction n with
 |zero=>intro hi;omega
 | succ n ih=>
   intro hi
   rw [eB]
   by_cases hn:i<n
   . have:=ih hn
     rw [yL (List.getElem?_eq_some_iff.1 this).1];exact this
   . have:i=n:=by omega
     subst this
     rw [yR (yJ _),if_pos h]
     simp
theorem iH{n:Nat}{f:Nat->Bool}:((yr n).filter f).length<=n:=by
 have:=List.length_filter_le f (yr n)
 rwa [yK]at this
theorem bOn_ok{h0:Hp}(ok:h0.t.Sized h0.n){bp r:Nat}:Ret yt 62 [ptrTo bp,.int .i64 (r:Nat)] h0 fun v h'=>Gr h0 h'/\ ∃b2 b3,v=.func (.func 128) #[] #[ptrTo b2,ptrTo b3]/\h0.n<=b2/\h0.n<=b3/\h'.load b2 0 1=some [ptrTo bp]/\h'.load b3 0 1=some [.int .i64 (r:Nat)]:=by
 have S:=Si ok
 refine ac (n:=6) (rs:=[.tmp 4]) rfl Tryz.e62 rfl rfl rfl (lbt rfl) ?_
 simp only [BS,Nat.reduceLT]
 refine ag (cC (by exact dZ)) S ?_;clear S;intro h b2 S n_b2
 simp only [BS,Nat.reduceLT,Nat.reduceEqDiff,if_false]
 refine ag (cC (by exact bu)) S ?_;clear S;intro h b3 S n_b3
 simp only [BS,LB,ae,Nat.reduceLT,Nat.reduceEqDiff]
 exact⟨S.gr,b2,b3,rfl,n_b2,n_b3,S.ld m1 rfl,S.ld m0 rfl⟩
section
variable{h0:Hp}{bp bb rows wide long:Nat}{B:Nat->Nat}
theorem gJ.its{D:Nat->Prop}{h:Hp}{F:List Nat}(s:ItS h0 D h F)(ok0:h0.t.Sized h0.n)(m:gJ h0 bp bb rows wide long B)(d1:D bp)(d2:D bb):gJ h bp bb rows wide long B:=
 ⟨Row.of_get (s.data bp (m.r.lt ok0) d1) m.r,Row.of_get (s.data bb (m.b.lt ok0) d2) m.b,m.lt⟩
theorem on1_it (ok0:h0.t.Sized h0.n) (m:gJ h0 bp bb rows wide long B) {r:Nat} (hr:r<rows) (hrows:rows<=100) (hwide:wide<=1000) (hlong:long=(wide+7)/8) {b2 b3:Nat} (e2:h0.load b2 0 1=some [ptrTo bp]) (e3:h0.load b3 0 1=some [.int .i64 (r:Nat)]):
 ng yt 128 [] [ptrTo b2,ptrTo b3] h0 (fun c=>c=b2\/c=b3\/c=bp\/c=bb) (((yr wide).filter (dH B long r)).map fun(i:Nat)=>[.int .i64 (i:Nat)]):=by
 intro lb J Z hz Y h F s hj
 have l2:=s.load ok0 e2 (.inl rfl)
 refine enter (n:=21) (rs:=[]) rfl Tryz.e128 rfl rfl rfl (lbt rfl) ?_
 simp only [BS,LB,Nat.reduceLT,Tryz.FFfl2128,l2]
 refine ar (iK s.ok (m.its s ok0 (.inr (.inr (.inl rfl))) (.inr (.inr (.inr rfl)))).bits) ?_
 intro h1 g1
 have sA:=s.gr g1
 have jA:=Y.gr _ _ _ _ hj g1
 simp only [BS]
 refine aJ (fun(i:Nat) ρ h=>i<=wide/\ ∃F,ItS h0 (fun c=>c=b2\/c=b3\/c=bp\/c=bb) h F/\J ((yr i).filter (dH B long r)).length h F/\ρ 0=.func (.yield lb) #[] #[]/\ρ 1=ptrTo b2/\ρ 2=ptrTo b3/\ρ 6=.int .i64 (wide:Nat)/\ρ 7=.int .i64 i) (fun i=>wide-i) ?_ 0 _ _ ?_
 . clear l2 s hj sA jA F g1 h
   intro i ih ρ h ⟨hi,F,s,hj,r0,r1,r2,r6,r7⟩
   have w:aq .i64 ((i:Int)+1)=((i+1:Nat):Int):=by rw [wrap64]<;>omega
   by_cases hlt:i<wide
   . have l2:=s.load ok0 e2 (.inl rfl)
     have l3:=s.load ok0 e3 (.inr (.inl rfl))
     have mh:=m.its s ok0 (.inr (.inr (.inl rfl))) (.inr (.inr (.inr rfl)))
     simp only [BS,LB,Nat.reduceLT,Nat.reduceEqDiff,Tryz.FFfl2128,r1,r2,r6,r7,ax,hlt,l2,l3]
     refine ar (pS s.ok mh hr hlt hrows hwide hlong) ?_
     intro h2 g2
     cases hb:dH B long r i with
     | true=>
       have hx:(((yr wide).filter (dH B long r)).map fun(i:Nat)=>[Value.int .i64 (i:Nat)])[((yr i).filter (dH B long r)).length]? =some [.int .i64 (i:Nat)]:=by
        rw [yA,pj hb _ hlt];rfl
       have ln:((yr (i+1)).filter (dH B long r)).length=((yr i).filter (dH B long r)).length+1:=by rw [eB,if_pos hb];simp
       simp only [BS,LB,Nat.reduceLT,Nat.reduceEqDiff,r0]
       refine dw Y (s.gr g2) (Y.gr _ _ _ _ hj g2) (i:=((yr i).filter (dH B long r)).length) hx ?_ ?_ ?_
       . intro h3 F3 a s3 _ _
         simp only [BS,LB,Nat.reduceLT,Nat.reduceEqDiff,r7,w]
         exact ih (i+1) _ _ (by omega) ⟨by omega,F3,s3,by rw [ln];exact a,by simp [aa,r0],by simp [aa,r1,ab],by simp [aa,r2,ab],by simp [aa,r6],by simp [aa]⟩
       . intro h3 a _
         simp only [BS,LB,Nat.reduceLT,Nat.reduceEqDiff]
         exact eS rfl ⟨rfl,.inr (.inl ⟨_,rfl,a⟩)⟩
       . intro v h3 a
         exact absurd a (hz v h3)
     | false=>
       have ln:(yr (i+1)).filter (dH B long r)=(yr i).filter (dH B long r):=by rw [eB,if_neg (by rw [hb];decide)];simp
       simp only [BS,LB,Nat.reduceLT,Nat.reduceEqDiff,r7,w]
       exact ih (i+1) _ _ (by omega) ⟨by omega,F,s.gr g2,by rw [ln];exact Y.gr _ _ _ _ hj g2,by simp [aa,r0],by simp [aa,r1,ab],by simp [aa,r2,ab],by simp [aa,r6],by simp [aa]⟩
   . simp only [BS,LB,Nat.reduceLT,r6,r7,ax,hlt]
     have:i=wide:=by omega
     subst this
     exact cR (dh ⟨rfl,_,rfl,rfl,.inl ⟨_,F,rfl,by simpa using hj⟩⟩)
 . exact⟨yH _,F,sA,jA,by simp [aa,cf],by simp [aa,cf,ab],by simp [aa,cf,ab],by simp [aa],by simp [aa]⟩
theorem bRow_ok(ok:h0.t.Sized h0.n)(m:gJ h0 bp bb rows wide long B){r:Nat}(hr:r<rows)(hrows:rows<=100)(hwide:wide<=1000)(hlong:long=(wide+7)/8):
 Ret yt 22 [ptrTo bp,.int .i64 (r:Nat)] h0 fun v h'=>Gr h0 h'/\aC h' 1 bO v ((yr wide).filter (dH B long r))/\ ∀c,au v c->h0.n<=c:=by
 have S:=Si ok
 refine ac (n:=15) (rs:=[.cell 4 38]) rfl Tryz.e22 rfl rfl rfl (lbt rfl) ?_
 simp only [BS,Tryz.FFfl222]
 refine ag aw S ?_;clear S;intro h b4 S n_b4
 simp only [BS,LB,Nat.reduceLT,Nat.reduceEqDiff]
 have k4:=(S.row (b:=b4) m0).lt S.ok
 refine step_ret (bOn_ok S.ok) ?_
 rintro v hA ⟨g,b2,b3,rfl,n2,n3,y2,y3⟩
 have mA:=m.gr (S.gr.trans g)
 replace S:=S.call g
 have it:=on1_it S.ok mA hr hrows hwide hlong y2 y3
 have zp:=mA.r.lt S.ok
 have zb:=mA.b.lt S.ok
 have wp:=m.r.lt ok
 have wb:=m.b.lt ok
 generalize hxs:(yr wide).filter (dH B long r)=xs at it
 have hxl:xs.length<=1000:=by rw [<-hxs];exact yx iH hwide
 simp only [BS]
 replace S:=S.nilG (k:=1)
 refine g9 S (g:=128) (a:=#[]) (b:=#[ptrTo b2,ptrTo b3]) (by simp [bS,aa,ab]) rfl rfl ?_
 intro h2 db lb S' hdb hlb g2
 obtain⟨X,hX,S'⟩: ∃X:eX,X=_/\St NoM h0 h2 [(lb,.loop X),(db,.dfr),(b4,.row [.slice none 0 0] 1)] [(.slice none 0 0,1,[])]:=⟨_,rfl,S'⟩
 have hJ:Yld yt lb (fun k h' F=> ∃(vR:Value),St NoM h0 h' [(lb,.loop X),(db,.dfr),(b4,.row [vR] 1)] [(vR,1,natM (xs.take k))]/\k<=xs.length/\F=keys [(lb,.loop X),(db,.dfr),(b4,.row [vR] 1)] [(vR,1,natM (xs.take k))]/\(∀c∈F,hA.n<=c\/c=b4)) (fun _ _=>False) (xs.map fun(i:Nat)=>[.int .i64 (i:Nat)]):=by
  refine⟨?_,?_,fun _ _ h=>h.elim,?_⟩
  . rintro i h F ⟨vR,S,_,rfl,_⟩;exact⟨S.ok,fun b hb=>S.key_lt hb⟩
  . rintro i h F h' ⟨vR,S,a,rfl,c⟩ gg;exact⟨vR,S.call gg,a,rfl,c⟩
  . rintro i x hR F hx ⟨vR,S,a,rfl,hF⟩
    have hil:i<xs.length:=by
     have:=(List.getElem?_eq_some_iff.1 hx).1
     simpa using this
    rw [yA,yv hil]at hx
    cases hx
    have tk:natM (xs.take (i+1))=natM (xs.take i)++[.int .i64 (xs[i]:Nat)]:=by
     rw [yB hil]
     unfold natM
     rw [List.map_append];rfl
    have tl:(natM (xs.take i)).length<=i:=by rw [uu,List.length_take];omega
    generalize xs[i]=x at tk
    have fvR:Fl vR:=(S.gown _ m0).1.fl
    subst hX
    refine hQ (S.get m0) (by rw [Tryz.e22];rfl) rfl ?_
    have S0:=S
    have kR:=S.fr.n
    have lim:hA.n<=hR.n:=by
     have h1:=hF lb (by simp [keys])
     have h2:=S.key_lt (b:=lb) (by simp [keys])
     omega
    replace S:=S.base
    simp only [BS,LB,Nat.reduceLT,Nat.reduceEqDiff]
    refine gw S (i:=0) rfl rfl rfl rfl rfl ?_
    clear S;intro h S
    simp only [LC]at S
    simp only [BS,LB,Nat.reduceLT,Nat.reduceEqDiff,Tryz.FFfl222,S.ld (b:=b4) (o:=0) m2 rfl]
    refine ag (bN (by exact zo) (by exact zq) (by decide) (by rfl)) S ?_;clear S;intro h bs S n_bs;simp only [LC,aT,bD,ah,Nat.reduceMul,Nat.reduceAdd,yS,yM,yU,yV]at S
    simp only [BS,LB,Nat.reduceLT,Nat.reduceEqDiff]
    have src:aO h 1 (.slice (some ⟨bs,0,none⟩) 1 1)=some (1,[.int .i64 (x:Nat)]):=by simp only [aO];rw [S.lds (b:=bs) (o:=0) (n:=1*1) m0 (lbt rfl)];rfl
    replace S:=S.drop1
    refine ew (S.grow (j:=0) (m:=1) (new:=[.int .i64 (x:Nat)]) rfl zo zq (by decide) Tryz.n38 src rfl (by decide) rfl (by rw [uu];simp;omega)) ?_
    clear S src;rintro h vR' S
    simp only [LC]at S
    have fv:Fl vR':=(S.gown _ m0).1.fl
    simp only [BS,LB,Nat.reduceLT,Nat.reduceEqDiff]
    refine aA (aB S (i:=2) rfl Tryz.s38 fv (yz (lbt rfl)) ono) ?_
    clear S;rintro h ⟨S,_⟩
    simp only [LC]at S
    simp only [BS]
    refine d6 S (i:=0) rfl ?_
    clear S;intro h S
    simp only [LC]at S
    rw [<-tk]at S
    refine .inl ⟨rfl,_,⟨vR',S0.rebase S,by omega,rfl,fun c hc=>?_⟩,S.fr,S.key_new⟩
    rcases S.key_new c hc with h|h
    . exact hF c h
    . exact .inl (by omega)
 refine fu (it lb _ _ (fun _ _ h=>h) hJ h2 _ ?_ ⟨_,S',yH _,rfl,fun c hc=>?_⟩) fun o rc h' y=>hU y ?_
 . refine⟨S'.ok,g2.n,fun b hb _=>g2.get b hb,fun b hb h=>?_,fun b hb=>S'.key_lt hb⟩
   simp only [keys,zj,zI,zF,dI,za,zx,yW,yO,or_false]at hb
   rcases hb with rfl|rfl|rfl
   . omega
   . omega
   . rcases h.2 with e|e|e|e<;>omega
 . simp only [keys,zj,zI,zF,dI,za,zx,yW,yO,or_false]at hc
   rcases hc with rfl|rfl|rfl
   . exact .inl hlb
   . exact .inl hdb
   . exact .inr rfl
 . rintro F ⟨vR,T,b,rfl,_⟩
   rw [yI,yP]at T
   subst hX
   refine⟨_,T.get m0,yY,?_⟩
   replace T:=T.dead
   have S:=T
   show Run _ _ _ _ _ _ _ _
   simp only [BS,LB,Nat.reduceLT,Nat.reduceEqDiff,Tryz.FFfl222,S.ld (b:=b4) (o:=0) m1 rfl]
   have fv:Fl vR:=(T.gown _ m0).1.fl
   clear S
   refine aA (aB T (i:=1) rfl Tryz.s38 fv (yz (lbt rfl)) ono) ?_
   clear T;rintro h3 ⟨T,_⟩
   simp only [yT,ze]at T
   simp only [BS]
   refine eP (iw [db] _ (L:=[(b4,_)]) T.base fun h4 S4=>?_)
   refine⟨rfl,(fJ (by decide) (by simp only [aN,ab,Nat.reduceEqDiff,reduceIte];exact lS Tryz.a38 (S4.ld (b:=b4) (o:=0) m0 rfl))).2 (eV.2 ⟨(T.rebase S4).gr,(S4.gown _ m0).1.sl (natM_eq _).symm bQ (by decide),fun c hc=>?_⟩)⟩
   rcases(T.gblk m0 hc).1 with h|h
   . exact h
   . exact h.elim
end
end Go.Ab

end
section
namespace Go.Ab
open Go.Proofs
set_option maxRecDepth 10000
open Tryz in
def Tryz.FFf3263:=aj a1<|aj s1<|aj z1<|aj n1<|aj u2<|aj a2<|aj s2<|aj z2<|aj i2<|aj u3<|aj a3<|aj s3<|aj z3<|aj i3<|aj u4<|aj a4<|aj s4<|aj z4<|aj n4<|aj u5<|aj a5<|aj s5<|aj z5<|aj i5<|aj a28<|aj s28<|aj z28<|aj i28<|aj n28<|aj p28<|aj ff28<|aj d28<|aj u29<|aj a29<|aj s29<|aj z29<|aj q29<|aj i29<|aj n29<|aj u38<|aj a38<|aj s38<|aj z38<|aj q38<|aj n38<|aj a49<|aj s49<|aj z49<|aj i49<|aj n49<|aj p49<|aj ff49<|aj d49<|aj u190<|aj a190<|aj s190<|aj z190<|aj q190<|aj n190<|aj a192<|aj s192<|aj z192<|aj i192<|aj n192<|aj p192<|aj ff192<|aj d192<|aj a219<|aj s219<|aj z219<|aj n219<|aj a350<|aj s350<|aj z350<|n350
def lV(A:List Arc)(f:Arc->Nat)(ids:List Nat):List (List Value):=ids.map fun(id:Nat)=>[.int .i64 id,.agg ⟨bw ⟨0,f (A.getD id default),(A.getD id default).w⟩⟩]
theorem arcs_ok'{h0:Hp}(ok:h0.t.Sized h0.n){p vl ve:Value}(f1:Fl p)(f2:Fl vl)(f3:Fl ve):Ret yt 240 [p,vl,ve] h0 fun v h'=>Gr h0 h'/\ ∃b1 b2 b3,v=.func (.func 263) #[] #[ptrTo b1,ptrTo b2,ptrTo b3]/\h0.n<=b1/\h0.n<=b2/\h0.n<=b3/\h'.load b1 0 1=some [vl]/\h'.load b2 0 1=some [p]/\h'.load b3 0 1=some [ve]:=by
 have S:=Si ok
 refine ac (n:=8) (rs:=[.tmp 6]) rfl Tryz.e240 rfl rfl rfl (lbt rfl) ?_
 simp only [BS,Nat.reduceLT]
 refine ag (cC (by assumption)) S ?_;clear S;intro h b2 S n_b2
 simp only [BS,Nat.reduceLT,Nat.reduceEqDiff,if_false]
 refine ag (cC (by assumption)) S ?_;clear S;intro h b1 S n_b1
 simp only [BS,Nat.reduceLT,Nat.reduceEqDiff,if_false]
 refine ag (cC (by assumption)) S ?_;clear S;intro h b3 S n_b3
 simp only [BS,LB,ae,Nat.reduceLT,Nat.reduceEqDiff]
 exact⟨S.gr,b1,b2,b3,rfl,n_b1,n_b2,n_b3,S.ld m1 rfl,S.ld m2 rfl,S.ld m0 rfl⟩
theorem arcs_it{hq h0:Hp}(okq:hq.t.Sized hq.n)(ok0:h0.t.Sized h0.n)(kq:eo hq h0)(nq:hq.n<=h0.n){p vl:Value}{γ:Gra}{nb b1 b2 b3:Nat}(hn:bz hq nb p γ){ids:List Nat}(hl:aC h0 1 bO vl ids)(hids: ∀id∈ids,id<γ.arcs.length)(hlen:ids.length<1000){g:FuncId}{f:Arc->Nat}(hk:KeyF yt g f)
 (e1:h0.load b1 0 1=some [vl]) (e2:h0.load b2 0 1=some [p]) (e3:h0.load b3 0 1=some [.func (.func g) #[] #[]]):
 ng yt 263 [] [ptrTo b1,ptrTo b2,ptrTo b3] h0 (fun c=>c=b1\/c=b2\/c=b3\/au vl c\/c<hq.n) (lV γ.arcs f ids):=by
 intro lb J Z hz Y h F s hj
 refine enter (n:=32) (rs:=[]) rfl Tryz.e263 rfl rfl rfl (lbt rfl) ?_
 have l1:=s.load ok0 e1 (.inl rfl)
 simp only [BS,LB,Nat.reduceLT,Tryz.FFf3263,l1,hl.lenq]
 refine aJ (fun(i:Nat) ρ h=>i<=ids.length/\ ∃F,ItS h0 (fun c=>c=b1\/c=b2\/c=b3\/au vl c\/c<hq.n) h F/\J i h F/\ρ 0=.func (.yield lb) #[] #[]/\ρ 1=ptrTo b1/\ρ 2=ptrTo b2/\ρ 3=ptrTo b3/\ρ 9=vl/\ρ 10=.int .i64 ids.length/\ρ 11=.int .i64 i) (fun i=>ids.length-i) ?_ 0 _ _ ?_
 . clear l1
   intro i ih ρ h ⟨hi,F,s,hj,r0,r1,r2,r3,r9,r10,r11⟩
   by_cases hlt:i<ids.length
   . obtain⟨c,o,hidx,hld⟩:=(s.sl ok0 hl (fun b h=>.inr (.inr (.inr (.inl h))))).ix (kd:=.i64) bQ hlt
     have l2:=s.load ok0 e2 (.inr (.inl rfl))
     have l3:=s.load ok0 e3 (.inr (.inr (.inl rfl)))
     have hid:=hids _ (yy hlt)
     have nt:bz h nb p γ:=hn.keep okq (s.keep kq nq (fun c hc=>.inr (.inr (.inr (.inr hc)))))
     have w:aq .i64 ((i:Int)+1)=((i+1:Nat):Int):=by rw [wrap64]<;>omega
     have S:=Si s.ok
     simp only [BS,LB,Nat.reduceLT,Nat.reduceEqDiff,Tryz.FFf3263,r2,r9,r10,r11,ax,hlt,hidx,hld,bO,l2]
     refine step_ret (iW S.ok nt hid) ?_
     rintro v h2 ⟨g1,rfl⟩
     replace S:=S.call g1;clear g1
     simp only [BS,LB,Nat.reduceLT,Nat.reduceEqDiff,Tryz.FFf3263]
     refine ag aw S ?_;clear S;intro h b7 S n_b7
     simp only [BS,LB,Nat.reduceLT,Nat.reduceEqDiff,bw]
     refine aA (S.store (i:=0) rfl ?_ ?_ rfl rfl ?_ ono) ?_
     . exact(by exact zD)
     . exact(by intro x e;cases e)
     . exact lbt rfl
     clear S;rintro h ⟨S,mo⟩;clear mo;simp only [LC,ah,lay,yD,yE,Nat.reduceAdd]at S
     simp only [BS,LB,Nat.reduceLT,Nat.reduceEqDiff]
     refine ay (aF rfl) (q:=0) (ps:=[(4,6)]) (by kernel_rfl) ?_
     simp only [BS,LB,cls,Nat.reduceLT,Nat.reduceEqDiff,Nat.reduceAdd,Nat.reducePow,Nat.reduceDiv,Nat.reduceMod,Nat.reduceLeDiff,Tryz.FFf3263,r0,r3,S.old l3 (fun h=>h),S.lds (b:=b7) (o:=0) (n:=3) m0 (lbt rfl)]
     have hlt7:=(S.row (b:=b7) m0).lt S.ok
     refine cy (hk _ γ.arcs[ids[i]] S.ok) ?_
     intro h' g1
     have lv:=az g1 hlt7
     replace S:=S.call g1;clear g1
     simp only [BS,LB,cls,Nat.reduceLT,Nat.reduceEqDiff,Nat.reduceAdd,Nat.reducePow,Nat.reduceDiv,Nat.reduceMod,Nat.reduceLeDiff,Tryz.FFf3263,S.ld (b:=b7) (o:=2) m0 rfl]
     have gd:γ.arcs.getD ids[i] default=γ.arcs[ids[i]]:=by simp [yu,hid]
     have hx:(lV γ.arcs f ids)[i]? =some [.int .i64 (ids[i]:Nat),.agg ⟨[.int .i64 0,.int .i64 (f γ.arcs[ids[i]]:Nat),.int .i64 (γ.arcs[ids[i]].w:Nat)]⟩]:=by
      unfold lV
      rw [yA,yv hlt]
      simp only [Option.map_some,gd]
      rfl
     refine dn_yield hz Y (s.gr S.gr) (Y.gr _ _ _ _ hj S.gr) (j:=i) hx ?_ ?_
     . intro h' F' a s' _ _
       simp only [BS,LB,cls,Nat.reduceLT,Nat.reduceEqDiff,Nat.reduceAdd,Nat.reducePow,Nat.reduceDiv,Nat.reduceMod,Nat.reduceLeDiff,r11,w]
       refine⟨by simp only [bj,bC,aW,bA,aZ,ne_eq,not_false_eq_true,bG,bU,bg,aY,bS,cM,aN,Nat.reduceLT,Nat.reduceEqDiff,reduceIte,yF,r0,r1,r2,r3,ab,aR lv,aM lv],?_⟩
       exact ih (i+1) _ _ (by omega) ⟨by omega,F',s',a,by simp [aa,r0],by simp [aa,r1,ab],by simp [aa,r2,ab],by simp [aa,r3,ab],by simp [aa,r9],by simp [aa,r10],by simp [aa]⟩
     . intro h' a _
       simp only [BS,LB,cls,Nat.reduceLT,Nat.reduceEqDiff,Nat.reduceAdd,Nat.reducePow,Nat.reduceDiv,Nat.reduceMod,Nat.reduceLeDiff]
       refine⟨by simp only [bj,bC,aW,bA,aZ,ne_eq,not_false_eq_true,bG,bU,bg,aY,bS,cM,aN,Nat.reduceLT,Nat.reduceEqDiff,reduceIte,yF,r0,r1,r2,r3,ab,aR lv,aM lv],?_⟩
       exact eS rfl ⟨rfl,.inr (.inl ⟨_,rfl,a⟩)⟩
   . simp only [BS,LB,Nat.reduceLT,r10,r11,ax,hlt]
     have:i=ids.length:=by omega
     subst this
     exact cR (dh ⟨rfl,_,rfl,rfl,.inl ⟨_,F,rfl,by simpa [lV]using hj⟩⟩)
 . exact⟨by omega,F,s,hj,by simp [aa,cf],by simp [aa,cf,ab],by simp [aa,cf,ab],by simp [aa,cf,ab],by simp [aa],by simp [aa],by simp [aa]⟩
open Tryz in
def Tryz.FFf4241:=aj a1<|aj s1<|aj z1<|aj n1<|aj u2<|aj a2<|aj s2<|aj z2<|aj i2<|aj u3<|aj a3<|aj s3<|aj z3<|aj i3<|aj u4<|aj a4<|aj s4<|aj z4<|aj n4<|aj u5<|aj a5<|aj s5<|aj z5<|aj i5<|aj u25<|aj a25<|aj s25<|aj z25<|aj q25<|aj n25<|aj u38<|aj a38<|aj s38<|aj z38<|aj q38<|aj n38<|aj u55<|aj a55<|aj s55<|aj z55<|aj i55<|aj u198<|aj a198<|aj s198<|aj z198<|aj q198<|aj i198<|aj n198<|aj u242<|aj a242<|aj s242<|aj z242<|aj n242<|aj a246<|aj s246<|aj z246<|aj i246<|aj n246<|aj p246<|aj ff246<|aj d246<|aj a266<|aj s266<|aj z266<|aj i266<|aj n266<|aj p266<|aj ff266<|aj d266<|aj a268<|aj s268<|aj z268<|aj i268<|aj n268<|aj p268<|aj ff268<|aj d268<|aj u309<|aj a309<|aj s309<|aj z309<|aj q309<|aj i309<|aj n309<|aj a312<|aj s312<|aj z312<|aj i312<|aj n312<|aj p312<|aj ff312<|d312
theorem ints_set(l:List Int)(i:Nat)(x:Int):(ints l).set i (.int .i64 x)=ints (l.set i x):=by
 have e4: ∀l:List Int,ints l=l.map fun x=>Value.int .i64 x:=fun l=>by
  unfold ints;rw [yG,y8,yG];rfl
 rw [e4,e4,List.map_set]
theorem reach_ok{h0:Hp}(ok:h0.t.Sized h0.n){br ba bc c N v arc far:Nat}{p vD vO:Value}{F:List Nat}{K:Nat->Option Int}{O:List Nat}{es:List (Value×Value×Nat)}{f:Int->Option Value}{aL:List Int}
 (R:Row h0 br [p,vD,.slice (some ⟨ba,0,none⟩) N N,vO,.map (some bc)] 1) (H:cG h0 F p N K) (hN:N<=1000) (hc:h0.get bc=some (.map es c)) (MI:dD es c f) (CF:ClF O f) (hA:Row h0 ba (ints aL) 1) (lA:aL.length=N) (hv:v<N)
 (d1:ba∉F) (d2:br∉F) (d3:br≠ba):
 Ret yt 241 [ptrTo br,.int .i64 v,.int .i64 arc,.int .i64 far] h0 fun _ h'=>Mo (fun c=>c∈F\/c=ba) h0 h'/\ ∃F' aL',cG h' F' p N (gZ O K v far)/\(∀b∈F',b∈F\/h0.n<=b)/\Row h' ba (ints aL') 1/\aL'.length=N/\((gZ O K v far=K/\aL'=aL)\/(v∉O/\gZ O K v far=cq K v (some (far:Int))/\aL'=aL.set v arc)):=by
 have S:=Si ok
 have hA0:=hA.lt ok
 have l0:=R.load1 (o:=0) rfl
 have l4:=R.load1 (o:=4) rfl
 have l2:=R.load1 (o:=2) rfl
 have pp: ∃b,p=ptrTo b:=by obtain⟨b,_,_,e,_⟩:=H.ex;exact⟨b,e⟩
 obtain⟨bp,rfl⟩:=pp
 refine ac (n:=59) (rs:=[]) rfl Tryz.e241 rfl rfl rfl (lbt rfl) ?_
 simp only [BS,LB,Nat.reduceLT,Nat.reduceEqDiff,Tryz.FFf4241,l0]
 refine ar (rI S.ok H) ?_
 intro h g;replace S:=S.call g;clear g
 replace hc:h.get bc=some (.map es c):=S.gr.at hc
 have H1:=H.gr S.gr
 have lk:=lookI_v (x:=(v:Int)) Tryz.u242 Tryz.u3 (z:=.int .i64 0) (by kernel_rfl) hc MI
 rw [CF v]at lk
 replace l0:=S.old l0 (fun h=>h)
 replace l4:=S.old l4 (fun h=>h)
 replace l2:=S.old l2 (fun h=>h)
 replace hA:Row h ba (ints aL) 1:=hA.gr S.gr
 have R1:=R.gr S.gr
 have gg:=S.gr
 by_cases hO:v∈O
 . rw [if_pos hO,zt]at lk
   simp only [BS,LB,Nat.reduceLT,Nat.reduceEqDiff,Int.reduceLT,Tryz.FFf4241,l4,lk]
   exact⟨gg.fr,F,aL,by unfold gZ;rw [if_pos hO];exact H1,fun b hb=>.inl hb,hA,lA,.inl ⟨by unfold gZ;rw [if_pos hO],rfl⟩⟩
 . rw [if_neg hO,zu]at lk
   have hba:=hA.lt gg.ok
   cases hk:K v with
   | none=>
     have rk:gZ O K v far=cq K v (some (far:Int)):=by unfold gZ;rw [if_neg hO,hk]
     simp only [BS,LB,Nat.reduceLT,Nat.reduceEqDiff,Int.reduceLT,Tryz.FFf4241,l0,l4,lk,zu,Option.isSome_none]
     refine step_ret (nw gg.ok H1 hv hN hk) ?_
     rintro r h2 ⟨f2,F',H2,hF'⟩
     have ha2:Row h2 ba (ints aL) 1:=f2.has (o:=.row _ 1) hA d1
     have r2:Row h2 br [ptrTo bp,vD,.slice (some ⟨ba,0,none⟩) N N,vO,.map (some bc)] 1:=f2.has (o:=.row _ 1) R1 d2
     have l2':=r2.load1 (o:=2) rfl
     have S:=St.init1 f2.ok (o:=.row _ 1) ha2
     simp only [BS,LB,Nat.reduceLT,Nat.reduceEqDiff,Nat.reduceAdd,Tryz.FFf4241,l2',hv]
     refine aA (aB S (i:=0) rfl Tryz.s3 bu (by rw [dc,lA];exact hv) ono) ?_
     clear S;rintro h3 ⟨S,mo⟩
     simp only [LC]at S
     rw [ints_set]at S
     simp only [BS]
     refine⟨(gg.fr.trans (f2.mono (fun c hc=>.inl hc)) (fun c hc=>.inl hc):Mo (fun c=>c∈F\/c=ba) h0 h2).trans mo (fun c hc=>.inl (.inr hc)),F',aL.set v arc,by rw [rk];exact H2.mo mo (fun b hb e=>by subst e;rcases hF' b hb with h|h;exact d1 h;omega),fun b hb=>(hF' b hb).imp (fun h=>h) (fun h=>yx gg.n h),S.row m0,by rw [List.length_set];exact lA,.inr ⟨hO,rk,rfl⟩⟩
   | some k=>
     by_cases hle:k<=(far:Int)
     . have rk:gZ O K v far=K:=by unfold gZ;rw [if_neg hO,hk];simp only [];rw [if_pos hle]
       simp only [BS,LB,Nat.reduceLT,Nat.reduceEqDiff,Int.reduceLT,Tryz.FFf4241,l4,lk,hle,zt]
       exact⟨gg.fr,F,aL,by rw [rk];exact H1,fun b hb=>.inl hb,hA,lA,.inl ⟨rk,rfl⟩⟩
     . have rk:gZ O K v far=cq K v (some (far:Int)):=by unfold gZ;rw [if_neg hO,hk];simp only [];rw [if_neg hle]
       simp only [BS,LB,Nat.reduceLT,Nat.reduceEqDiff,Int.reduceLT,Tryz.FFf4241,l0,l4,lk,hle,zt]
       refine step_ret (py gg.ok H1 hN hk (by omega)) ?_
       rintro r h2 ⟨f2,H2⟩
       have ha2:Row h2 ba (ints aL) 1:=f2.has (o:=.row _ 1) hA d1
       have r2:Row h2 br [ptrTo bp,vD,.slice (some ⟨ba,0,none⟩) N N,vO,.map (some bc)] 1:=f2.has (o:=.row _ 1) R1 d2
       have l2':=r2.load1 (o:=2) rfl
       have S:=St.init1 f2.ok (o:=.row _ 1) ha2
       simp only [BS,LB,Nat.reduceLT,Nat.reduceEqDiff,Nat.reduceAdd,Tryz.FFf4241,l2',hv]
       refine aA (aB S (i:=0) rfl Tryz.s3 bu (by rw [dc,lA];exact hv) ono) ?_
       clear S;rintro h3 ⟨S,mo⟩
       simp only [LC]at S
       rw [ints_set]at S
       simp only [BS]
       refine⟨(gg.fr.trans (f2.mono (fun c hc=>.inl hc)) (fun c hc=>.inl hc):Mo (fun c=>c∈F\/c=ba) h0 h2).trans mo (fun c hc=>.inl (.inr hc)),F,aL.set v arc,by rw [rk];exact H2.mo mo (fun b hb e=>by subst e;exact d1 hb),fun b hb=>.inl hb,S.row m0,by rw [List.length_set];exact lA,.inr ⟨hO,rk,rfl⟩⟩
open Tryz in
def Tryz.FFf5175:=aj a1<|aj s1<|aj z1<|aj n1<|aj u2<|aj a2<|aj s2<|aj z2<|aj i2<|aj u3<|aj a3<|aj s3<|aj z3<|aj i3<|aj u4<|aj a4<|aj s4<|aj z4<|aj n4<|aj u5<|aj a5<|aj s5<|aj z5<|aj i5<|aj u6<|aj a6<|aj s6<|aj z6<|aj i6<|aj a7<|aj s7<|aj z7<|aj i7<|aj n7<|aj p7<|aj ff7<|aj d7<|aj a8<|aj s8<|aj z8<|aj i8<|aj n8<|aj p8<|aj ff8<|aj d8<|aj u9<|aj a9<|aj s9<|aj z9<|aj n9<|aj u10<|aj a10<|aj s10<|aj z10<|aj n10<|aj u11<|aj a11<|aj s11<|aj z11<|aj n11<|aj u12<|aj a12<|aj s12<|aj z12<|aj i12<|aj a13<|aj s13<|aj z13<|aj i13<|aj n13<|aj p13<|aj ff13<|aj d13<|aj a14<|aj s14<|aj z14<|aj i14<|aj n14<|aj p14<|aj ff14<|aj d14<|aj u15<|aj a15<|aj s15<|aj z15<|aj q15<|aj i15<|aj n15<|aj u16<|aj a16<|aj s16<|aj z16<|aj q16<|aj i16<|aj n16<|aj u17<|aj a17<|aj s17<|aj z17<|aj q17<|aj i17<|aj n17<|aj u25<|aj a25<|aj s25<|aj z25<|aj q25<|aj n25<|aj a28<|aj s28<|aj z28<|aj i28<|aj n28<|aj p28<|aj ff28<|aj d28<|aj u29<|aj a29<|aj s29<|aj z29<|aj q29<|aj i29<|aj n29<|aj u38<|aj a38<|aj s38<|aj z38<|aj q38<|aj n38<|aj a42<|aj s42<|aj z42<|aj n42<|aj a49<|aj s49<|aj z49<|aj i49<|aj n49<|aj p49<|aj ff49<|aj d49<|aj u55<|aj a55<|aj s55<|aj z55<|aj i55<|aj u101<|aj a101<|aj s101<|aj z101<|aj q101<|aj n101<|aj a102<|aj s102<|aj z102<|aj n102<|aj u121<|aj a121<|aj s121<|aj z121<|aj q121<|aj i121<|aj n121<|aj u190<|aj a190<|aj s190<|aj z190<|aj q190<|aj n190<|aj a192<|aj s192<|aj z192<|aj i192<|aj n192<|aj p192<|aj ff192<|aj d192<|aj u198<|aj a198<|aj s198<|aj z198<|aj q198<|aj i198<|aj n198<|aj a219<|aj s219<|aj z219<|aj n219<|aj u242<|aj a242<|aj s242<|aj z242<|aj n242<|aj a246<|aj s246<|aj z246<|aj i246<|aj n246<|aj p246<|aj ff246<|aj d246<|aj a266<|aj s266<|aj z266<|aj i266<|aj n266<|aj p266<|aj ff266<|aj d266<|aj a268<|aj s268<|aj z268<|aj i268<|aj n268<|aj p268<|aj ff268<|aj d268<|aj u294<|aj a294<|aj s294<|aj z294<|aj i294<|aj u309<|aj a309<|aj s309<|aj z309<|aj q309<|aj i309<|aj n309<|aj a312<|aj s312<|aj z312<|aj i312<|aj n312<|aj p312<|aj ff312<|aj d312<|aj a314<|aj s314<|aj z314<|aj n314<|aj u324<|aj a324<|aj s324<|aj z324<|aj i324<|aj a357<|aj s357<|aj z357<|aj i357<|aj n357<|aj p357<|aj ff357<|aj d357<|aj u358<|aj a358<|aj s358<|aj z358<|aj n358<|aj a360<|aj s360<|aj z360<|aj i360<|aj n360<|aj u362<|aj a362<|aj s362<|aj z362<|aj i362<|aj a363<|aj s363<|aj z363<|aj n363<|aj u364<|aj a364<|aj s364<|aj z364<|aj i364<|aj u365<|aj a365<|aj s365<|aj z365<|aj i365<|aj a367<|aj s367<|aj z367<|aj i367<|aj n367<|aj p367<|aj ff367<|d367
def seen(A:List Arc)(fs ft:Arc->Nat):List Arc:=A.map fun a=>⟨fs a,ft a,a.w⟩
def NextF(E:Env)(g:FuncId)(γ:Gra)(pn:Value)(fs:Arc->Nat):Prop:= ∀(h:Hp) (nb:Nat),h.t.Sized h.n->bz h nb pn γ-> ∀v,v<γ.nodes->Ret E g [pn,.int .i64 (v:Nat)] h fun r h'=>Gr h h'/\aC h' 1 bO r (outs γ.arcs fs γ.arcs.length v)/\ ∀c,au r c->h.n<=c
def cS(l:List Nat):List Value:=l.flatMap bO
theorem jI(l:List Nat):cS l=l.map fun(x:Nat)=>Value.int .i64 x:=by
 unfold cS;rw [yG,y8,yG];rfl
theorem vf(l:List Int):ints l=l.map fun x=>Value.int .i64 x:=by
 unfold ints;rw [yG,y8,yG];rfl
theorem h9(l:List Nat):(cS l).length=l.length:=by rw [jI,yI]
theorem qK(l:List Nat)(x:Nat):cS (l++[x])=cS l++cS [x]:=by rw [jI,jI,jI,List.map_append]
theorem seen_at{A:List Arc}{fs ft:Arc->Nat}{i:Nat}(hi:i<A.length):(seen A fs ft).getD i default=⟨fs (A.getD i default),ft (A.getD i default),(A.getD i default).w⟩/\(seen A fs ft).getD i default∈seen A fs ft:=by
 have e:(seen A fs ft).getD i default=⟨fs (A.getD i default),ft (A.getD i default),(A.getD i default).w⟩:=by
  unfold seen;simp [yu,hi]
 refine⟨e,?_⟩
 rw [yu,yv (by unfold seen;simpa using hi)]
 exact yy _
theorem seen_mem{A:List Arc}{fs ft:Arc->Nat}{a:Arc}(ha:a∈seen A fs ft): ∃i,i<A.length/\(seen A fs ft).getD i default=a:=by
 obtain⟨i,hi,e⟩:=List.mem_iff_getElem.1 ha
 exact⟨i,by unfold seen at hi;simpa using hi,by simp [yu,hi,e]⟩
def TreeAt(h':Hp)(m:Nat)(r:Value)(B:List Arc)(s N:Nat):Prop:= ∃vD vA vO D aL O,r=.agg ⟨[vD,vA,vO]⟩/\aC h' 1 bO vD ((yr N).map D)/\aC h' 1 (encI .i64) vA aL/\aC h' 1 bO vO O/\aL.length=N/\(∀v,IsD B s v (D v))/\(∀c,au vD c\/au vA c\/au vO c->m<=c)/\O.Nodup/\ ∀v∈O,v<N
theorem qr{h0:Hp}(ok:h0.t.Sized h0.n){F:List Nat}{p:Value}{N:Nat}{K:Nat->Option Int}(H:cG h0 F p N K)(hN:N<=1000):Ret yt 134 [p] h0 fun r h'=> ∃(v:Nat) (k:Int) (b:Bool),r=.tuple #[.int .i64 (v:Nat),.int .i64 k,.bool b]/\Mo (· ∈F) h0 h'/\cG h' F p N (if b=true then cq K v none else K)/\(b=true->K v=some k/\ ∀u k',K u=some k'->k<=k')/\(b=false-> ∀v,K v=none):=by
 refine oP (rG ok H hN) ?_
 rintro r h' (⟨rfl,h1,g⟩|⟨v,k,rfl,h1,h2,h3,h4⟩)
 . exact⟨0,0,false,rfl,g.fr,H.gr g,fun h=>(by cases h),fun _=>h1⟩
 . exact⟨v,k,true,rfl,h3,h4,fun _=>⟨h1,fun u k' h=>by have:=h2 u k' h;omega⟩,fun h=>(by cases h)⟩
def FloodI(h0:Hp)(B:List Arc)(s N b9 br bc ba bd b8 bP bp:Nat)(gN gE:FuncId)(O:List Nat)(ρ:Nat->Value)(d:List Deferred)(h:Hp):Prop:=
 ∃ (dbs:List Nat) (D:Nat->Nat) (K:Nat->Option Int) (F:List Nat) (es:List (Value×Value×Nat)) (c:Nat) (f:Int->Option Value) (aL:List Int) (vO:Value) (bk:Nat) (v:Nat) (key:Int) (b:Bool),d=dbs.map mX/\
   St NoM h0 h ([(bk,Ob.row [.int .i64 key] 1),(b9,.row [ptrTo br] 1),(br,.row [ptrTo bP,.slice (some ⟨bd,0,none⟩) N N,.slice (some ⟨ba,0,none⟩) N N,vO,.map (some bc)] 1),(bc,.map es c),(ba,.row (ints aL) 1),(bd,.row (cS ((yr N).map D)) 1),(b8,.row [.slice none 0 0,.slice none 0 0,.slice none 0 0] 1)]++cL dbs) [(vO,1,cS O)]/\
   (∀c'∈F,h0.n<=c'/\c'∉keys ([(bk,Ob.row [.int .i64 key] 1),(b9,.row [ptrTo br] 1),(br,.row [ptrTo bP,.slice (some ⟨bd,0,none⟩) N N,.slice (some ⟨ba,0,none⟩) N N,vO,.map (some bc)] 1),(bc,.map es c),(ba,.row (ints aL) 1),(bd,.row (cS ((yr N).map D)) 1),(b8,.row [.slice none 0 0,.slice none 0 0,.slice none 0 0] 1)]++cL dbs) [(vO,1,cS O)])/\
   aL.length=N/\dD es c f/\ClF O f/\Dj B s N O D K (fun _=>False)/\cG h F (ptrTo bP) N (if b=true then cq K v none else K)/\(b=true->K v=some key/\ ∀u k',K u=some k'->key<=k')/\(b=false-> ∀v,K v=none)/\
   ρ 0=ptrTo bp/\ρ 2=.func (.func gN) #[ptrTo bp] #[]/\ρ 3=.func (.func gE) #[] #[]/\ρ 8=ptrTo b8/\ρ 9=ptrTo b9/\ρ 10=.int .i64 v/\ρ 11=ptrTo bk/\ρ 12=.bool b
theorem flood_ok {h0:Hp} (ok:h0.t.Sized h0.n) {γ:Gra} (hγ:Good γ) {pn:Value} {nb:Nat} (hn:bz h0 nb pn γ) {s:Nat} (hs:s<γ.nodes) {gN gE:FuncId} {fs ft:Arc->Nat} (hN:NextF yt gN γ pn fs) (hE:KeyF yt gE ft) (hft: ∀a∈γ.arcs,ft a<γ.nodes):
 Ret yt 175 [pn,.int .i64 s,.func (.func gN) #[pn] #[],.func (.func gE) #[] #[]] h0 fun r h'=>Gr h0 h'/\TreeAt h' h0.n r (seen γ.arcs fs ft) s γ.nodes:=by
 have n1:=hγ.n1
 have n2:=hγ.n2
 have S:=Si ok
 have c1: ¬((s:Int)<0):=by omega
 have c2: ¬((γ.nodes:Int)<=(s:Int)):=by omega
 obtain⟨bp,epn⟩: ∃b,pn=ptrTo b:=by obtain⟨b,_,_,_,_,_,e,_⟩:=hn.ex;exact⟨b,e⟩
 subst epn
 refine ac (n:=117) (rs:=[.cell 8 246]) rfl Tryz.e175 rfl rfl rfl (lbt rfl) ?_
 simp only [BS,Tryz.FFf5175]
 refine ag aw S ?_;clear S;intro h b8 S n_b8
 simp only [BS,LB,Nat.reduceLT,Nat.reduceEqDiff,Tryz.FFf5175,c1]
 refine ar (cD S.ok (hn.gr S.gr)) ?_;intro h g;replace S:=S.call g;clear g
 simp only [BS,LB,Nat.reduceLT,Nat.reduceEqDiff,c2]
 refine ar (cD S.ok (hn.gr S.gr)) ?_;intro h g;replace S:=S.call g;clear g
 simp only [BS,LB,Nat.reduceLT,Nat.reduceEqDiff]
 have nF:=S.fr.n
 have kF:=fun {c} (hc:c∈_)=>S.key_lt (b:=c) hc
 refine step_ret (sa S.ok) ?_;intro v h ⟨g,Fh,H,hFn⟩;replace S:=S.call g;clear g
 rename Value=>p
 have dF: ∀c∈Fh,c∉keys [(b8,Ob.row [.slice none 0 0,.slice none 0 0,.slice none 0 0] 1)] []:=fun c hc hm=>by have:=kF hm;have:=hFn c hc;omega
 have lF:=H.lt S.ok
 have S0:=S
 have gF: ∀c∈Fh,h0.n<=c\/NoM c:=fun c hc=>.inl (yx nF (hFn c hc))
 replace S:=S.base
 simp only [BS,LB]
 refine ag (bN (by exact Tryz.u25) (by exact Tryz.e2E) (by decide) (by rfl)) S ?_;clear S;intro h bs1 S n_bs1;simp only [LC,aT,bD,ah,Nat.reduceMul,Nat.reduceAdd,yS,yM,yU,yV]at S
 simp only [BS,LB,Nat.reduceLT,Nat.reduceEqDiff]
 refine ar (cD S.ok (hn.gr (S0.rebase S).gr)) ?_;intro h g;replace S:=S.call g;clear g
 simp only [BS,LB,Nat.reduceLT,Nat.reduceEqDiff]
 have kl:=fun {c} (hc:c∈_)=>S.key_lt (b:=c) hc
 have kn:=S.fr.n
 refine step_ret (rep64_ok S.ok (x:=72057594037927936) (.inr ⟨bs1,0,none,1,rfl,yJ _,S.lds (b:=bs1) (o:=0) (n:=1*1) m0 (lbt rfl)⟩) n1 (by omega)) ?_;intro v h ⟨g,bd,ed,nd,Rd⟩;replace S:=S.call g;clear g
 subst ed
 replace S:=S.drop1
 replace S:=S.push (b:=bd) (o:=.row _ 1) (.inl (yx kn nd)) Rd (fun hm=>by have:=kl (yQ _ hm);omega)
 simp only [BS,LB]
 refine ag (bN (by exact zo) (by exact zq) (by decide) (by rfl)) S ?_;clear S;intro h bs2 S n_bs2;simp only [LC,aT,bD,ah,Nat.reduceMul,Nat.reduceAdd,yS,yM,yU,yV]at S
 simp only [BS,LB,Nat.reduceLT,Nat.reduceEqDiff]
 refine ar (cD S.ok (hn.gr (S0.rebase S).gr)) ?_;intro h g;replace S:=S.call g;clear g
 simp only [BS,LB,Nat.reduceLT,Nat.reduceEqDiff]
 have kl2:=fun {c} (hc:c∈_)=>S.key_lt (b:=c) hc
 have kn2:=S.fr.n
 refine step_ret (repI_ok S.ok (x:= -1) (.inr ⟨bs2,0,none,1,rfl,yJ _,S.lds (b:=bs2) (o:=0) (n:=1*1) m0 (lbt rfl)⟩) n1 (by omega)) ?_;intro v h ⟨g,ba,ea,na,Ra⟩;replace S:=S.call g;clear g
 subst ea
 replace S:=S.drop1
 replace S:=S.push (b:=ba) (o:=.row _ 1) (.inl (yx kn2 na)) Ra (fun hm=>by have:=kl2 (yQ _ hm);omega)
 have pp: ∃b,p=ptrTo b:=by obtain⟨b,_,_,e,_⟩:=H.ex;exact⟨b,e⟩
 obtain⟨bP,rfl⟩:=pp
 simp only [BS,LB,Nat.reduceLT,Nat.reduceEqDiff,Nat.reduceAdd,Tryz.FFf5175]
 refine ag sU S ?_;clear S;intro h bc S n_bc
 simp only [BS,LB,Nat.reduceLT,Nat.reduceEqDiff,Nat.reduceAdd,Nat.reduceLeDiff,Tryz.FFf5175]
 refine ag (bE (by intro x e;cases e)) S ?_;clear S;intro h br S n_br;simp only [ah]at S
 simp only [BS,Tryz.FFf5175]
 refine ag aw S ?_;clear S;intro h b9 S n_b9
 simp only [BS,LB,Nat.reduceLT,Nat.reduceEqDiff]
 refine aA (aB S (i:=0) rfl ?_ ?_ ?_ ono) ?_
 . exact(by simp only [Tryz.FFf5175])
 . exact(by exact dZ)
 . exact yz (lbt rfl)
 clear S;rintro h ⟨S,mo⟩;clear mo;simp only [LC,ah,lay,yD,yE,Nat.reduceAdd]at S
 simp only [BS,LB,Nat.reduceLT,Nat.reduceEqDiff,Tryz.FFf5175,S.ld (b:=b9) (o:=0) m0 rfl,S.ld (b:=br) (o:=0) m1 rfl]
 have d8: ∀c∈Fh,c≠b8:=fun c hc e=>dF c hc (by rw [e];simp [keys])
 have nd':=yx kn nd
 have na':=yx kn2 na
 clear kl kl2 kF kn nd kn2 na Ra Rd
 have HA:=H.mo S.fr dF
 have dis: ∀c∈Fh,c≠b9/\c≠br/\c≠bc/\c≠ba/\c≠bd/\c≠b8:=fun c hc=>by have:=lF c hc;have:=d8 c hc;omega
 replace S:=S0.rebase S
 clear S0 dF lF d8 H n_bs1 n_bs2
 have T:=S.baseF Fh
 have nh:=S.fr.n
 have hF1: ∀L,(∀c∈keys L [],c=b9\/c=br\/c=bc\/c=ba\/c=bd\/c=b8)-> ∀c∈Fh,c∉keys L []:=fun L hL c hc hm=>by
  have:=dis c hc
  have:=hL c hm
  omega
 have ps:Ret yt 207 [ptrTo bP,.int .i64 (s:Nat),.int .i64 0] h _:=nw S.ok HA hs (by omega) rfl
 refine step_ret ps ?_
 rintro r h1 ⟨f1,F1,H1,hF'⟩
 replace S:=S.rebaseF gF (T.stepF f1 (fun c hc=>⟨.inl (.inr hc),hF1 _ (fun c hc=>by simpa [keys]using hc) c hc⟩))
 have hF1': ∀c∈F1,h0.n<=c/\c∉keys [(b9,Ob.row [ptrTo br] 1),(br,.row [ptrTo bP,.slice (some ⟨bd,0,none⟩) γ.nodes γ.nodes,.slice (some ⟨ba,0,none⟩) γ.nodes γ.nodes,.slice none 0 0,.map (some bc)] 1),(bc,.map [] 0),(ba,.row (yN γ.nodes (.int .i64 (-1))) 1),(bd,.row (yN γ.nodes (.int .i64 72057594037927936)) 1),(b8,.row [.slice none 0 0,.slice none 0 0,.slice none 0 0] 1)] []:=fun c hc=>by
  rcases hF' c hc with h2|h2
  . exact⟨(gF c h2).elim (fun h=>h) (fun h=>h.elim),hF1 _ (fun c hc=>by simpa [keys]using hc) c h2⟩
  . refine⟨yx nh h2,fun hm=>?_⟩
    have:=T.key_lt (b:=c) (by simpa [keys]using hm)
    omega
 clear T hF1 dis hFn gF nF hF' HA f1
 replace S:=S.nilG (k:=1)
 have dj:=dj_init (B:=seen γ.arcs fs ft) hs
 have lF1:=H1.lt S.ok
 have S1:=S
 replace S:=S.baseF F1
 simp only [BS,LB,Nat.reduceLT,Nat.reduceEqDiff,Tryz.FFf5175,S.ld (b:=b9) (o:=0) m0 rfl,S.ld (b:=br) (o:=0) m1 rfl]
 refine step_ret (qr S.ok H1 (by omega)) ?_
 rintro r h2 ⟨v,k,b,rfl,f2,H2,hb1,hb2⟩
 replace S:=S.stepF f2 (fun c hc=>⟨.inl (.inr hc),fun hm=>(hF1' c hc).2 (by simpa [keys,dI]using hm)⟩)
 simp only [BS,LB,Nat.reduceLT,Nat.reduceEqDiff,Tryz.FFf5175]
 have S2:=S
 replace S:=S.base
 refine ag aw S ?_;clear S;intro h bk S n_bk
 simp only [BS,LB,Nat.reduceLT,Nat.reduceEqDiff]
 refine aA (aB S (i:=0) rfl ?_ ?_ ?_ ono) ?_
 . exact(by simp only [Tryz.FFf5175])
 . exact(by exact bu)
 . exact yz (lbt rfl)
 clear S;rintro h ⟨S,mo⟩;clear mo;simp only [LC,ah,lay,yD,yE,Nat.reduceAdd]at S
 simp only [BS,LB,Nat.reduceLT,Nat.reduceEqDiff]
 have H3:=H2.mo S.fr (fun c hc hm=>(hF1' c hc).2 (by simpa [keys,dI]using hm))
 refine mS (FloodI h0 (seen γ.arcs fs ft) s γ.nodes b9 br bc ba bd b8 bP bp gN gE) (fun O=>γ.nodes-O.length) ?_ [] _ _ _ ?_
 . clear S S1 S2 H3 hb1 hb2 H2 f2 H1 dj hF1' lF1 ps
   intro O ih ρ d hS ⟨dbs,D,K,F,es,c,f,aL,vO,bk,v,key,b,hd,S0,hF,lA,MI,CF,dj,H,hb1,hb2,r0,r2,r3,r8,r9,r10,r11,r12⟩
   simp only [List.cons_append,List.nil_append]at S0 hF
   have S:=S0.base
   cases b with
   | false=>
     simp only [BS,LB,Nat.reduceLT,Nat.reduceEqDiff,Tryz.FFf5175,r8,r9,r12,S.ld (b:=b9) (o:=0) m1 rfl,S.lds (b:=br) (o:=1) (n:=3) m2 (lbt rfl)]
     have fvO:Fl vO:=by
      rcases(S0.gown _ m0).1 with⟨e,_⟩|⟨_,_,e,_⟩
      . rw [show vO=_ from e];exact cg
      . rw [show vO=_ from e];exact cg
     refine aA (S.store (i:=6) rfl zz (by intro x e;cases e) rfl (by simp only [ah,List.drop_succ_cons,y9,List.take_succ_cons,List.take_zero,zE,zJ,fvO.2.1,yF];rfl) (lbt rfl) ono) ?_
     clear S;rintro h ⟨S,_⟩
     simp only [LC,ah,lay,yD,yE,Nat.reduceAdd]at S
     simp only [BS]
     replace S:=(S0.rebase S).permL (L':=cL dbs++[(bk,_),(b9,_),(br,_),(bc,_),(ba,_),(bd,_),(b8,_)]) zB
     subst hd
     refine eP (iw dbs _ S fun h' S'=>?_)
     have lT:=S'.lds (b:=b8) (o:=0) (n:=3) m6 (lbt rfl)
     refine⟨rfl,_,kC (by decide) (by simp only [aN,r8,ab,Nat.reduceEqDiff,reduceIte];exact dg Tryz.a246 zz lT),S'.gr,?_⟩
     refine⟨_,_,_,D,aL,O,rfl,?_,?_,?_,lA,dj.done (hb2 rfl) n2,?_,dj.nd,dj.lt⟩
     . refine .inr ⟨bd,0,none,γ.nodes,by rw [yI,yK],by rw [yI,yK];exact yJ _,?_⟩
       have:=(S'.row (b:=bd) m5).load (o:=0) (n:=((yr γ.nodes).map D).length*1) (by rw [h9];omega)
       rw [this,y9,zA (by rw [h9];omega)];rfl
     . refine .inr ⟨ba,0,none,γ.nodes,by rw [lA],by rw [lA];exact yJ _,?_⟩
       have:=(S'.row (b:=ba) m4).load (o:=0) (n:=aL.length*1) (by rw [dc];omega)
       rw [this,y9,zA (by rw [dc];omega)];rfl
     . exact(S'.gown _ m0).1.sl rfl bQ (by decide)
     . rintro c (h|h|h)
       . have h:bd=c:=h
         subst h;exact((S'.own _ m5).1).elim (fun h=>h) (fun h=>h.elim)
       . have h:ba=c:=h
         subst h;exact((S'.own _ m4).1).elim (fun h=>h) (fun h=>h.elim)
       . exact((S'.gblk m0 h).1).elim (fun h=>h) (fun h=>h.elim)
   | true =>
     simp only [if_true]at H
     obtain⟨hk,hmin⟩:=hb1 rfl
     obtain⟨_,n,rfl,_,_⟩:=dj.i3 v key hk
     obtain⟨dj2,hvO,hvN,hnb⟩:=dj.pop hk hmin
     have lk:=lookI_v (x:=(v:Int)) Tryz.u242 Tryz.u3 (z:=.int .i64 0) (by kernel_rfl) (show hS.get bc=some (.map es c)from(S.own _ m3).2) MI
     rw [CF v,if_neg hvO,zu]at lk
     have w1:aq .i64 1=1:=rfl
     simp only [BS,LB,Nat.reduceLT,Nat.reduceEqDiff,Int.reduceAdd,Tryz.FFf5175,r9,r10,r12,lk,w1,S.ld (b:=b9) (o:=0) m1 rfl,S.ld (b:=br) (o:=4) m2 rfl]
     refine aA (S.mputI (i:=3) rfl Tryz.u242 Tryz.u3 MI _) ?_
     clear S;rintro h ⟨_,es',c',MI',S⟩
     simp only [LC]at S
     simp only [BS]
     refine ay (aF rfl) (q:=0) (ps:=[]) (by kernel_rfl) ?_
     simp only [BS,LB,cls,Nat.reduceLT,Nat.reduceEqDiff,Nat.reduceAdd,Nat.reducePow,Nat.reduceDiv,Nat.reduceMod,Nat.reduceLeDiff,Tryz.FFf5175,r9,r10,r11,hvN,S.ld (b:=b9) (o:=0) m1 rfl,S.ld (b:=br) (o:=1) m2 rfl,S.ld (b:=bk) (o:=0) m0 rfl]
     refine dM (aB S (i:=5) rfl Tryz.s2 bu (by rw [h9,yI,yK];exact hvN) ono) ?_
     clear S;rintro h ⟨S,_⟩
     simp only [LC]at S
     have eD:(cS ((yr γ.nodes).map D)).set v (.int .i64 (n:Nat))=cS ((yr γ.nodes).map fun u=>if u=v then n else D u):=by
      rw [jI,jI,List.map_map,List.map_map]
      have:=gC (N:=γ.nodes) (k:=v) (F:=(fun(x:Nat)=>Value.int .i64 x)∘D) (F':=(fun(x:Nat)=>Value.int .i64 x)∘fun u=>if u=v then n else D u) (fun u _ hu=>by simp [hu])
      rw [<-this];simp
     rw [eD]at S
     simp only [BS,LB,Nat.reduceAdd]
     refine ay (aF rfl) (q:=128) (ps:=[(0,8)]) (by kernel_rfl) ?_
     simp only [BS,LB,cls,Nat.reduceLT,Nat.reduceEqDiff,Nat.reduceAdd,Nat.reducePow,Nat.reduceDiv,Nat.reduceMod,Nat.reduceLeDiff,Tryz.FFf5175,r9,r10,S.ld (b:=b9) (o:=0) m1 rfl,S.ld (b:=br) (o:=3) m2 rfl]
     refine dG (bN (by exact zo) (by exact zq) (by decide) (by rfl)) S ?_;clear S;intro h bs S n_bs e_bs;simp only [LC,aT,bD,ah,Nat.reduceMul,Nat.reduceAdd,yS,yM,yU,yV]at S
     simp only [BS,LB,cls,Nat.reduceLT,Nat.reduceEqDiff,Nat.reduceAdd,Nat.reducePow,Nat.reduceDiv,Nat.reduceMod,Nat.reduceLeDiff]
     have src:aO h 1 (.slice (some ⟨bs,0,none⟩) 1 1)=some (1,cS [v]):=by simp only [aO];rw [S.lds (b:=bs) (o:=0) (n:=1*1) m0 (lbt rfl)];rfl
     replace S:=S.drop1
     refine dn_v (S.grow (j:=0) (m:=1) (new:=cS [v]) rfl zo zq (by decide) Tryz.n38 src rfl (by decide) rfl (by rw [h9,h9];have:=dj.len;simp;omega)) ?_
     clear S src;rintro h vO' S
     simp only [LC,<-qK]at S
     have fvO:Fl vO':=by
      rcases(S.gown _ m0).1 with⟨e,_⟩|⟨_,_,e,_⟩
      . rw [show vO'=_ from e];exact cg
      . rw [show vO'=_ from e];exact cg
     simp only [BS,LB,cls,Nat.reduceLT,Nat.reduceEqDiff,Nat.reduceAdd,Nat.reducePow,Nat.reduceDiv,Nat.reduceMod,Nat.reduceLeDiff,Tryz.FFf5175]
     refine dM (aB S (i:=2) rfl Tryz.s38 fvO (yz (lbt rfl)) ono) ?_
     clear S;rintro h ⟨S,_⟩
     simp only [LC]at S
     simp only [BS,LB,Nat.reduceLT,Nat.reduceEqDiff,Nat.reduceAdd,r0,r2,r10]
     have pv:vO=.slice none 0 0\/ ∃c n,vO=.slice (some ⟨c,0,some 1⟩) n n/\c≠b9:=by
      rcases(S0.gown _ m0).1 with⟨e,_⟩|⟨c,n,e,_⟩
      . exact .inl e
      . refine .inr ⟨c,n,e,fun h=>?_⟩
        exact(S0.gblk (c:=c) m0 (by rw [show vO=_ from e];rfl)).2 (by subst h;exact List.mem_map_of_mem (f:=Prod.fst) m1)
     refine⟨?_,?_⟩
     . clear ih
       rcases pv with rfl|⟨cO,nO,rfl,hne⟩
       . simp only [bj,bC,aW,bA,aZ,ne_eq,not_false_eq_true,bG,bU,bg,aY,bS,cM,aN,Nat.reduceLT,Nat.reduceEqDiff,reduceIte,yF,r9,ab,qW,rL,pair_x,entry_nl,ot]
       . simp only [bj,bC,aW,bA,aZ,ne_eq,not_false_eq_true,bG,bU,bg,aY,bS,cM,aN,Nat.reduceLT,Nat.reduceEqDiff,reduceIte,yF,r9,ab,qW,rL,ee hne,ee hne.symm]
     have kO: ∀c∈keys ((bk,Ob.row [.int .i64 (n:Nat)] 1)::(b9,.row [ptrTo br] 1)::(br,.row [ptrTo bP,.slice (some ⟨bd,0,none⟩) γ.nodes γ.nodes,.slice (some ⟨ba,0,none⟩) γ.nodes γ.nodes,vO,.map (some bc)] 1)::(bc,.map es c)::(ba,.row (ints aL) 1)::(bd,.row (cS ((yr γ.nodes).map D)) 1)::(b8,.row [.slice none 0 0,.slice none 0 0,.slice none 0 0] 1)::cL dbs) [(vO,1,cS O)],c<hS.n:=fun c hc=>S0.key_lt hc
     have kS:=fun {c} hc=>S.key_lt (b:=c) hc
     have ge0:=(S0.rebase S).gr.n
     refine step_ret (hN _ nb S.ok (hn.gr (S0.rebase S).gr) v hvN) ?_
     rintro vl h ⟨g,sl,hcl⟩
     have kn:=S.fr.n
     have gn:=g.n
     replace S:=S.call g;clear g
     simp only [BS,LB,Nat.reduceLT,Nat.reduceEqDiff,r3]
     have kn2:=S.fr.n
     have lvl:=fun {c} hc=>sl.lt S.ok (b:=c) hc
     refine step_ret (arcs_ok' S.ok dZ sl.fl jj) ?_;intro v h ⟨g,b1,b2,b3,e,q1,q2,q3,y1,y2,y3⟩;replace S:=S.call g;replace sl:=sl.gr g;clear g
     subst e
     simp only [BS]
     have hH:=H.mo S.fr (fun c hc hm=>(hF c hc).2 hm)
     have lFS:=H.lt S0.ok
     refine g9 S (g:=263) (a:=#[]) (b:=#[ptrTo b1,ptrTo b2,ptrTo b3]) (by simp [bS,aa,ab]) rfl rfl ?_
     intro h2 db lb S' hdb hlb g2
     have R1:=S0.rebase S'
     obtain⟨X,hX,R1⟩: ∃X:eX,X=_/\St NoM h0 h2 ((lb,.loop X)::(db,.dfr)::(bk,Ob.row [.int .i64 (n:Nat)] 1)::(b9,.row [ptrTo br] 1)::(br,.row [ptrTo bP,.slice (some ⟨bd,0,none⟩) γ.nodes γ.nodes,.slice (some ⟨ba,0,none⟩) γ.nodes γ.nodes,vO',.map (some bc)] 1)::(bc,.map es' c')::(ba,.row (ints aL) 1)::(bd,.row (cS ((yr γ.nodes).map fun u=>if u=v then n else D u)) 1)::(b8,.row [.slice none 0 0,.slice none 0 0,.slice none 0 0] 1)::cL dbs) [(vO',1,cS (O++[v]))]:=⟨_,rfl,R1⟩
     have CF':ClF (O++[v]) (dV f (v:Int) (some (.int .i64 1))):=fun u=>by
      unfold dV
      by_cases e:u=v
      . subst e;simp
      . have e': ¬((u:Int)=(v:Int)):=by omega
        rw [if_neg e',CF u]
        simp [e]
     have hJ :Yld yt lb (fun k h' F'=> ∃K' Fh aL',St NoM h0 h' ((lb,.loop X)::(db,.dfr)::(bk,Ob.row [.int .i64 (n:Nat)] 1)::(b9,.row [ptrTo br] 1)::(br,.row [ptrTo bP,.slice (some ⟨bd,0,none⟩) γ.nodes γ.nodes,.slice (some ⟨ba,0,none⟩) γ.nodes γ.nodes,vO',.map (some bc)] 1)::(bc,.map es' c')::(ba,.row (ints aL') 1)::(bd,.row (cS ((yr γ.nodes).map fun u=>if u=v then n else D u)) 1)::(b8,.row [.slice none 0 0,.slice none 0 0,.slice none 0 0] 1)::cL dbs) [(vO',1,cS (O++[v]))]/\
      cG h' Fh (ptrTo bP) γ.nodes K'/\(∀c∈Fh,h0.n<=c/\c∉keys ((lb,.loop X)::(db,.dfr)::(bk,Ob.row [.int .i64 (n:Nat)] 1)::(b9,.row [ptrTo br] 1)::(br,.row [ptrTo bP,.slice (some ⟨bd,0,none⟩) γ.nodes γ.nodes,.slice (some ⟨ba,0,none⟩) γ.nodes γ.nodes,vO',.map (some bc)] 1)::(bc,.map es' c')::(ba,.row (ints aL') 1)::(bd,.row (cS ((yr γ.nodes).map fun u=>if u=v then n else D u)) 1)::(b8,.row [.slice none 0 0,.slice none 0 0,.slice none 0 0] 1)::cL dbs) [(vO',1,cS (O++[v]))])/\
      aL'.length=γ.nodes/\Dj (seen γ.arcs fs ft) s γ.nodes (O++[v]) (fun u=>if u=v then n else D u) K' (fun a=> ∃id∈(outs γ.arcs fs γ.arcs.length v).drop k,(seen γ.arcs fs ft).getD id default=a)/\
      F'=keys ((lb,.loop X)::(db,.dfr)::(bk,Ob.row [.int .i64 (n:Nat)] 1)::(b9,.row [ptrTo br] 1)::(br,.row [ptrTo bP,.slice (some ⟨bd,0,none⟩) γ.nodes γ.nodes,.slice (some ⟨ba,0,none⟩) γ.nodes γ.nodes,vO',.map (some bc)] 1)::(bc,.map es' c')::(ba,.row (ints aL') 1)::(bd,.row (cS ((yr γ.nodes).map fun u=>if u=v then n else D u)) 1)::(b8,.row [.slice none 0 0,.slice none 0 0,.slice none 0 0] 1)::cL dbs) [(vO',1,cS (O++[v]))]++Fh) (fun _ _=>False) (lV γ.arcs ft (outs γ.arcs fs γ.arcs.length v)):=by
      clear ih S' R1 y1 y2 y3 hH S g2 H hF sl
      refine⟨?_,?_,fun _ _ h=>h.elim,?_⟩
      . rintro k h F' ⟨K',Fh,aL',S,H,hF,_,_,rfl⟩
        exact⟨S.ok,fun b hb=>(List.mem_append.1 hb).elim (fun hb=>S.key_lt hb) (fun hb=>H.lt S.ok b hb)⟩
      . rintro k h F' h' ⟨K',Fh,aL',S,H,q⟩ g
        exact⟨K',Fh,aL',S.call g,H.gr g,q⟩
      . rintro k x h F' hx ⟨K',Fh,aL',S,H,hF,lA',dj',rfl⟩
        have hkl:k<(outs γ.arcs fs γ.arcs.length v).length:=by
         have:=(List.getElem?_eq_some_iff.1 hx).1
         simpa [lV]using this
        unfold lV at hx
        rw [yA,yv hkl]at hx
        cases hx
        have hm:=fN.1 (yy hkl)
        rw [zn hkl]at dj'
        generalize(outs γ.arcs fs γ.arcs.length v)[k]=id at hm dj'
        obtain⟨hid,hfs⟩:=hm
        subst hX
        refine hQ (S.get m0) (by rw [Tryz.e175];rfl) rfl ?_
        have S1:=S
        replace S:=S.base
        simp only [BS,LB,Nat.reduceLT,Nat.reduceEqDiff,Tryz.FFf5175]
        refine ag aw S ?_;clear S;intro h b14 S n_b14
        simp only [BS,LB,Nat.reduceLT,Nat.reduceEqDiff,Int.cast_ofNat_Int,bw]
        refine aA (S.store (i:=0) rfl ?_ ?_ rfl rfl ?_ ono) ?_
        . exact(by exact zD)
        . exact(by intro x e;cases e)
        . exact lbt rfl
        clear S;rintro h ⟨S,mo⟩;clear mo;simp only [LC,ah,lay,yD,yE,Nat.reduceAdd]at S
        simp only [BS]
        refine gw S (i:=1) rfl rfl rfl rfl rfl ?_
        clear S;intro h S
        simp only [LC]at S
        have amem:γ.arcs.getD id default∈γ.arcs:=by rw [yu,yv hid];exact yy hid
        have aok:=hγ.arcs _ amem
        have hol:O.length*cQ<=12*cQ:=zC _ (yx dj.len n2)
        have wmax:=kM
        have wn:aq .i64 ((n:Int)+((γ.arcs.getD id default).w:Int))=((n+(γ.arcs.getD id default).w:Nat):Int):=by rw [wrap64]<;>omega
        simp only [BS,LB,Nat.reduceLT,Nat.reduceEqDiff,Tryz.FFf5175,r9,r11,wn,S.ld (b:=b9) (o:=0) m4 rfl,S.ld (b:=b14) (o:=1) m0 rfl,S.ld (b:=b14) (o:=2) m0 rfl,S.ld (b:=bk) (o:=0) m3 rfl]
        have hH:=H.mo S.fr (fun c hc hm=>(hF c hc).2 hm)
        have lF2:=H.lt S1.ok
        have d3:br≠ba:=fun e=>by
         have ap:=S1.apart
         subst e
         simp only [keys,zj,List.cons_append,List.nodup_cons,yW]at ap
         exact ap.2.2.2.2.1 (.inr (.inl trivial))
        replace S:=S.mono (M':=fun c=>c∈keys _ _\/c∈Fh) (fun _ h=>.inl h)
        refine step_ret (reach_ok S.ok (arc:=id) (far:=n+(γ.arcs.getD id default).w) (S.row m5) hH (by omega) (S.own _ m6).2 MI' CF' (S.row m7) lA' (hft _ amem) (fun h=>(hF ba h).2 (by simp [keys])) (fun h=>(hF br h).2 (by simp [keys])) d3) ?_
        rintro r h ⟨f1,F2,aL2,H2,hF2,hA2,lA2,rel⟩
        have kq:=fun {c} hc=>S.key_lt (b:=c) hc
        have qn:=S.fr.n
        have S2:=S.callF (i:=7) (Fh:=Fh) rfl f1 (fun c hc=>⟨.inl (.inr hc),fun hm=>by
         rcases List.mem_cons.1 hm with e|hm
         . have:=lF2 c hc;omega
         . exact(hF c hc).2 hm⟩) (o':=.row _ 1) hA2
        simp only [yT,ze]at S2
        clear S
        simp only [BS]
        have S:=S2.base
        refine d6 S (i:=1) rfl ?_
        clear S;intro h S
        simp only [LC]at S
        have H3:=H2.mo S.fr (fun c hc hm=>by
         rcases hF2 c hc with h1|h1
         . rcases List.mem_cons.1 hm with e|hm
           . have:=lF2 c h1;omega
           . exact(hF c h1).2 hm
         . have:=kq hm;omega)
        have S3:=S2.rebase S
        refine .inl ⟨rfl,_,⟨_,F2,aL2,S1.rebaseF (fun c hc=>.inl (hF c hc).1) S3.drop1,H3,fun c hc=>?_,lA2,?_,rfl⟩,S3.fr.mono (fun c hc=>List.mem_append.2 hc),fun c hc=>?_⟩
        . rcases hF2 c hc with h1|h1
          . exact hF c h1
          . refine⟨yx S1.fr.n (yx qn h1),fun hm=>?_⟩
            have:=kq (yQ _ hm)
            omega
        . obtain⟨e1,e2⟩:=seen_at (fs:=fs) (ft:=ft) hid
          have:=dj'.relaxed (ex':=fun a=> ∃id'∈(outs γ.arcs fs γ.arcs.length v).drop (k+1),(seen γ.arcs fs ft).getD id' default=a) e2 (by rw [e1];show fs _∈_;rw [hfs];simp) (by rw [e1];exact hft _ amem) (by rw [e1];simp only [hfs,if_true];rw [zg,List.length_singleton,Nat.succ_mul];omega) (fun b hb hx=>by
           by_cases eb:b=(seen γ.arcs fs ft).getD id default
           . exact .inr eb
           . left
             rintro⟨i,hi,rfl⟩
             rcases List.mem_cons.1 hi with e|hi
             . subst e;exact eb rfl
             . exact hx ⟨i,hi,rfl⟩)
          simp only [e1,hfs,if_true]at this
          exact this
        . rcases List.mem_append.1 hc with hc|hc
          . exact .inl (List.mem_append_left _ hc)
          . rcases hF2 c hc with h1|h1
            . exact .inl (List.mem_append_right _ h1)
            . exact .inr (yx qn h1)
     have hkeep:=(S0.rebase S).gr
     have hol2:=jP γ.arcs fs γ.arcs.length v
     have hgm:=hγ.many
     refine fu (iter_useN (arcs_it (hq:=h0) ok S.ok hkeep.keep hkeep.n hn sl (fun id hid=>(fN.1 hid).1) (by omega) hE y1 y2 y3) (fun _ _ h=>h) hJ (h:=h2) (F:=keys ((lb,.loop X)::(db,.dfr)::(bk,Ob.row [.int .i64 (n:Nat)] 1)::(b9,.row [ptrTo br] 1)::(br,.row [ptrTo bP,.slice (some ⟨bd,0,none⟩) γ.nodes γ.nodes,.slice (some ⟨ba,0,none⟩) γ.nodes γ.nodes,vO',.map (some bc)] 1)::(bc,.map es' c')::(ba,.row (ints aL) 1)::(bd,.row (cS ((yr γ.nodes).map fun u=>if u=v then n else D u)) 1)::(b8,.row [.slice none 0 0,.slice none 0 0,.slice none 0 0] 1)::cL dbs) [(vO',1,cS (O++[v]))]++F) g2.fr (fun b hb hlt=>?_)
      ⟨cq K v none,F,aL,R1,hH.gr g2,fun c hc=>⟨(hF c hc).1,fun hm=>?_⟩,lA,dj2.exm (fun a ha hs=>?_),rfl⟩) fun o rc h' y=>hU y ?_
     . rcases List.mem_append.1 hb with hb'|hb'
       . have k2:=(R1.key_own hb').elim (fun h=>h) (fun h=>h.elim)
         rcases List.mem_cons.1 hb' with e|hb'
         . simp only []at e;omega
         . rcases List.mem_cons.1 hb' with e|hb'
           . simp only []at e;omega
           . have k1:=kS hb'
             rintro(h|h|h|h|h)
             . omega
             . omega
             . omega
             . have:=hcl b h;omega
             . omega
       . have k1:=lFS b hb'
         have k2:=(hF b hb').1
         rintro(h|h|h|h|h)
         . omega
         . omega
         . omega
         . have:=hcl b h;omega
         . omega
     . have k1:=lFS c hc
       have knh:=S.fr.n
       rcases List.mem_cons.1 hm with e|hm
       . simp only []at e;omega
       . rcases List.mem_cons.1 hm with e|hm
         . simp only []at e;omega
         . rcases S.key_own hm with h1|h1
           . omega
           . exact(hF c hc).2 h1
     . obtain⟨i,hi,e⟩:=seen_mem ha
       refine⟨i,?_,e⟩
       rw [y9]
       refine fN.2 ⟨hi,?_⟩
       have:=(seen_at (fs:=fs) (ft:=ft) hi).1
       rw [e]at this
       rw [this]at hs
       exact hs
     . rintro Fx ⟨K',Fh',aL',T,H',hF',lA',dj',rfl⟩
       clear hJ R1 y1 y2 y3 hH S' S
       rw [show(lV γ.arcs ft (outs γ.arcs fs γ.arcs.length v)).length=(outs γ.arcs fs γ.arcs.length v).length by simp [lV],List.drop_length]at dj'
       replace dj':=dj'.exm (ex':=fun _=>False) (fun a _ h=>by obtain⟨i,hi,_⟩:=h;cases hi)
       subst hX
       refine⟨_,T.get m0,yY,?_⟩
       have hF2: ∀c∈Fh',c≠lb:=fun c hc e=>(hF' c hc).2 (by rw [e];exact m0)
       have H2:=H'.mo ((Mo.refl (M:=(· =lb)) T.ok).put (.inr rfl) .dead) hF2
       replace T:=T.dead
       replace hF':=fun c hc=>And.intro (hF' c hc).1 (fun hm=>(hF' c hc).2 (yQ _ hm))
       have S:=T.base
       show Run _ _ _ _ _ _ _ _
       simp only [BS,Nat.reduceLT,Nat.reduceEqDiff,if_false,Tryz.FFf5175,r11,S.ld (b:=bk) (o:=0) m1 rfl]
       refine ag aw S ?_;clear S;intro h bk2 S n_bk2
       simp only [BS,LB,Nat.reduceLT,Nat.reduceEqDiff,r11]
       refine aA (aB S (i:=0) rfl ?_ ?_ ?_ ono) ?_
       . exact(by simp only [Tryz.FFf5175])
       . exact(by exact bu)
       . exact yz (lbt rfl)
       clear S;rintro h ⟨S,mo⟩;clear mo;simp only [LC,ah,lay,yD,yE,Nat.reduceAdd]at S
       simp only [BS,LB,Nat.reduceLT,Nat.reduceEqDiff,Tryz.FFf5175,r9,S.ld (b:=b9) (o:=0) m3 rfl,S.ld (b:=br) (o:=0) m4 rfl]
       have H3:=H2.mo S.fr (fun c hc hm=>(hF' c hc).2 hm)
       have lF3:=H2.lt T.ok
       have hF3: ∀c∈Fh',h0.n<=c/\c∉keys ([(bk2,Ob.row [.int .i64 (n:Nat)] 1),(b9,.row [ptrTo br] 1),(br,.row [ptrTo bP,.slice (some ⟨bd,0,none⟩) γ.nodes γ.nodes,.slice (some ⟨ba,0,none⟩) γ.nodes γ.nodes,vO',.map (some bc)] 1),(bc,.map es' c'),(ba,.row (ints aL') 1),(bd,.row (cS ((yr γ.nodes).map fun u=>if u=v then n else D u)) 1),(b8,.row [.slice none 0 0,.slice none 0 0,.slice none 0 0] 1)]++cL (db::dbs)) [(vO',1,cS (O++[v]))]:=fun c hc=>by
        refine⟨(hF' c hc).1,fun hm=>?_⟩
        have h1:=(hF' c hc).2
        have h2:=lF3 c hc
        simp [keys,cL]at hm
        rcases hm with h|h|h|h|h|h|h|h|h|h
        . omega
        all_goals exact h1 (by simp [keys,cL,h])
       replace S:=(T.rebase S).sub (L':=(bk2,Ob.row [.int .i64 (n:Nat)] 1)::(db,.dfr)::(b9,.row [ptrTo br] 1)::(br,.row [ptrTo bP,.slice (some ⟨bd,0,none⟩) γ.nodes γ.nodes,.slice (some ⟨ba,0,none⟩) γ.nodes γ.nodes,vO',.map (some bc)] 1)::(bc,.map es' c')::(ba,.row (ints aL') 1)::(bd,.row (cS ((yr γ.nodes).map fun u=>if u=v then n else D u)) 1)::(b8,.row [.slice none 0 0,.slice none 0 0,.slice none 0 0] 1)::cL dbs) (G':=[(vO',1,cS (O++[v]))]) (.cons_cons _ (.cons_cons _ (List.sublist_cons_self _ _))) (List.Sublist.refl _)
       replace S:=S.permL (L':=[(bk2,Ob.row [.int .i64 (n:Nat)] 1),(b9,.row [ptrTo br] 1),(br,.row [ptrTo bP,.slice (some ⟨bd,0,none⟩) γ.nodes γ.nodes,.slice (some ⟨ba,0,none⟩) γ.nodes γ.nodes,vO',.map (some bc)] 1),(bc,.map es' c'),(ba,.row (ints aL') 1),(bd,.row (cS ((yr γ.nodes).map fun u=>if u=v then n else D u)) 1),(b8,.row [.slice none 0 0,.slice none 0 0,.slice none 0 0] 1)]++cL (db::dbs)) (.cons _ (by
        show(List.append [_,_,_,_,_,_] ((db,Ob.dfr)::cL dbs)).Perm _
        exact List.perm_middle))
       clear T H' H2 hF'
       have T:=S.baseF Fh'
       refine step_ret (qr S.ok H3 (by omega)) ?_
       rintro rr h3 ⟨v3,k3,b3',rfl,f3,H4,hb1',hb2'⟩
       replace S:=S.rebaseF (fun c hc=>.inl (hF3 c hc).1) (T.stepF f3 (fun c hc=>⟨.inl (.inr hc),(hF3 c hc).2⟩))
       simp only [BS,LB,Nat.reduceLT,Nat.reduceEqDiff,r11]
       clear T
       have T:=S
       replace S:=S.base
       simp only [LC]at S
       refine aA (aB S (i:=0) rfl ?_ ?_ ?_ ono) ?_
       . exact(by simp only [Tryz.FFf5175])
       . exact(by exact bu)
       . exact yz (lbt rfl)
       clear S;rintro h ⟨S,mo⟩;clear mo;simp only [LC,ah,lay,yD,yE,Nat.reduceAdd]at S
       simp only [BS,LB,Nat.reduceLT,Nat.reduceEqDiff]
       have H5:=H4.mo S.fr (fun c hc hm=>(hF3 c hc).2 hm)
       replace S:=T.rebase S
       subst hd
       have hlO:(O++[v]).length=O.length+1:=by simp
       have hlO2:=dj'.len
       refine ih (O++[v]) _ _ _ (by omega) ⟨db::dbs,_,K',Fh',es',c',_,aL',vO',bk2,v3,k3,b3',rfl,S,hF3,lA',MI',CF',dj',H5,hb1',hb2',?_⟩
       refine⟨by simp [aa,r0,ab],by simp [aa,r2,ab],by simp [aa,r3,ab],by simp [aa,r8,ab],by simp [aa,r9,ab],by simp [aa],by simp [aa,ab],by simp [aa]⟩
 . have e1:cS ((yr γ.nodes).map fun _=>FAR)=yN γ.nodes (.int .i64 72057594037927936):=by
    rw [jI,yX,yK,List.map_replicate];rfl
   have e2:ints (yN γ.nodes (-1))=yN γ.nodes (.int .i64 (-1)):=by
    rw [vf,List.map_replicate]
   have S3:=S1.rebaseF (fun c hc=>.inl (hF1' c hc).1) (S2.rebase S)
   have nn:=S2.fr.n
   refine⟨[],fun _=>FAR,cq (fun _=>none) s (some 0),F1,[],0,fun _=>none,yN γ.nodes (-1),.slice none 0 0,bk,v,k,b,rfl,?_,?_,by simp,uH,fun u=>by simp,dj,H3,hb1,hb2,?_⟩
   . rw [e1,e2];exact S3
   . rw [e1,e2]
     intro c hc
     refine⟨(hF1' c hc).1,fun hm=>?_⟩
     have h1:=(hF1' c hc).2
     have h2:=lF1 c hc
     simp [keys,dI,cL]at hm h1
     omega
   . refine⟨by simp [aa,ab,aQ,ce],by simp [aa,ab,aQ,ce],by simp [aa,ab,aQ,ce],by simp [aa,ab,aQ,ce],by simp [aa,ab,aQ,ce],by simp [aa,ab,aQ,ce],by simp [aa,ab,aQ,ce],by simp [aa,ab,aQ,ce]⟩
open Tryz in
def Tryz.FFf6176:=aj a1<|aj s1<|aj z1<|aj n1<|aj u2<|aj a2<|aj s2<|aj z2<|aj i2<|aj u3<|aj a3<|aj s3<|aj z3<|aj i3<|aj a49<|aj s49<|aj z49<|aj i49<|aj n49<|aj p49<|aj ff49<|d49
open Tryz in
def Tryz.FFf690:=aj a1<|aj s1<|aj z1<|aj n1<|aj u2<|aj a2<|aj s2<|aj z2<|aj i2<|aj u3<|aj a3<|aj s3<|aj z3<|aj i3<|aj u25<|aj a25<|aj s25<|aj z25<|aj q25<|aj n25<|aj a28<|aj s28<|aj z28<|aj i28<|aj n28<|aj p28<|aj ff28<|aj d28<|aj u29<|aj a29<|aj s29<|aj z29<|aj q29<|aj i29<|aj n29<|aj u38<|aj a38<|aj s38<|aj z38<|aj q38<|aj n38<|aj a42<|aj s42<|aj z42<|aj n42<|aj u190<|aj a190<|aj s190<|aj z190<|aj q190<|aj n190<|aj a192<|aj s192<|aj z192<|aj i192<|aj n192<|aj p192<|aj ff192<|aj d192<|aj a219<|aj s219<|aj z219<|aj n219<|aj a246<|aj s246<|aj z246<|aj i246<|aj n246<|aj p246<|aj ff246<|d246
theorem toKey:KeyF yt 176 Arc.s:=by
 intro h0 a ok
 have S:=Si ok
 refine ac (n:=5) (rs:=[.tmp 2]) rfl Tryz.e176 rfl rfl rfl (lbt rfl) ?_
 simp only [BS,Nat.reduceLT,bw]
 refine ag (bE (by intro x e;cases e)) S ?_;clear S;intro h b S n_b;simp only [ah]at S
 simp only [BS,LB,ae,Nat.reduceLT,Nat.reduceEqDiff,Tryz.FFf6176,S.ld (b:=b) (o:=0) m0 rfl]
 exact S.gr
theorem toNext{γ:Gra}(hγ:Good γ){pn:Value}:NextF yt 159 γ pn Arc.t:=fun h nb ok hn v hv=>uX ok hn (by have:=hγ.many;omega) hv
theorem rt{h0:Hp}(ok:h0.t.Sized h0.n){γ:Gra}(hγ:Good γ){pn:Value}{nb:Nat}(hn:bz h0 nb pn γ){s:Nat}(hs:s<γ.nodes):
 Ret yt 90 [pn,.int .i64 s] h0 fun r h'=>Gr h0 h'/\TreeAt h' h0.n r (seen γ.arcs Arc.t Arc.s) s γ.nodes:=by
 have S:=Si ok
 refine ac (n:=10) (rs:=[.cell 4 246]) rfl Tryz.e90 rfl rfl rfl (lbt rfl) ?_
 simp only [BS,Tryz.FFf690]
 refine ag aw S ?_;clear S;intro h b4 S n_b4
 simp only [BS,LB,Nat.reduceLT,Nat.reduceEqDiff]
 have k0:=S.fr.n
 have lt4:=(S.row (b:=b4) m0).lt S.ok
 refine step_ret (flood_ok S.ok hγ (hn.gr S.gr) hs (toNext hγ) toKey (fun a ha=>(hγ.arcs a ha).1)) ?_;intro v h ⟨g,T⟩;replace S:=S.call g;clear g
 obtain⟨vD,vA,vO,D,aL,O,rfl,s1,s2,s3,t4,t5,t6,t7,t8⟩:=T
 have f1:=s1.fl
 have f2:=s2.fl
 have f3:=s3.fl
 have q1: ∀c,au vD c\/au vA c\/au vO c->c≠b4:=fun c hc e=>by have:=t6 c hc;omega
 simp only [BS,LB,Nat.reduceLT,Nat.reduceEqDiff]
 refine aA (S.store (i:=0) rfl zz (by intro x e;cases e) rfl (by simp only [ah,zE,zJ,f1.2.1,f2.2.1,f3.2.1,yF]) (lbt rfl) ono) ?_
 clear S;rintro h ⟨S,mo⟩
 simp only [LC,ah,lay,yD,yE,Nat.reduceAdd]at S
 simp only [BS,ae]
 refine(fJ (by decide) (by simp only [aN,ab,Nat.reduceEqDiff,reduceIte];exact dg Tryz.a246 zz (S.lds (b:=b4) (o:=0) (n:=3) m0 (lbt rfl)))).2 (eV.2 ?_)
 exact⟨S.gr,vD,vA,vO,D,aL,O,rfl,s1.mo mo (fun c hc=>q1 c (.inl hc)),s2.mo mo (fun c hc=>q1 c (.inr (.inl hc))),s3.mo mo (fun c hc=>q1 c (.inr (.inr hc))),t4,t5,fun c hc=>yx k0 (t6 c hc),t7,t8⟩
open Tryz in
def Tryz.FFd1273:=aj a1<|aj s1<|aj z1<|aj n1<|aj u2<|aj a2<|aj s2<|aj z2<|i2
def wy(x:Int):Int:=min (max x 0) 72057594037927936
theorem wD{h0:Hp}(ok:h0.t.Sized h0.n){b1 b2:Nat}{x:Int}(e1:h0.load b1 0 1=some [.int .i64 0])(e2:h0.load b2 0 1=some [.int .i64 72057594037927936]):bF yt 273 [.int .i64 x,ptrTo b1,ptrTo b2] h0 (.int .i64 (wy x)):=by
 have S:=Si ok
 refine ac (n:=10) (rs:=[.tmp 4]) rfl Tryz.e273 rfl rfl rfl (lbt rfl) ?_
 simp only [BS,LB,ae,Nat.reduceLT,Nat.reduceEqDiff,Tryz.FFd1273,e1,e2]
 exact⟨rfl,S.gr⟩
theorem xQ{h0:Hp}(ok:h0.t.Sized h0.n):Ret yt 262 [.int .i64 0,.int .i64 72057594037927936] h0 fun v h=>Gr h0 h/\ ∃b1 b2,v=.func (.func 273) #[] #[ptrTo b1,ptrTo b2]/\h.load b1 0 1=some [.int .i64 0]/\h.load b2 0 1=some [.int .i64 72057594037927936]:=by
 have S:=Si ok
 refine ac (n:=6) (rs:=[.tmp 4]) rfl Tryz.e262 rfl rfl rfl (lbt rfl) ?_
 simp only [BS,Nat.reduceLT]
 refine ag (bE (by intro x e;cases e)) S ?_;clear S;intro h b1 S n_b1;simp only [ah]at S
 simp only [BS,Nat.reduceLT,Nat.reduceEqDiff,if_false]
 refine ag (bE (by intro x e;cases e)) S ?_;clear S;intro h b2 S n_b2;simp only [ah]at S
 simp only [BS,LB,ae,Nat.reduceLT,Nat.reduceEqDiff]
 exact⟨S.gr,b1,b2,rfl,S.ld m1 rfl,S.ld m0 rfl⟩
theorem pC{h0:Hp}(ok:h0.t.Sized h0.n){x:Int}:bF yt 237 [.int .i64 x] h0 (.int .i64 (wy x)):=by
 have S:=Si ok
 refine ac (n:=6) (rs:=[.tmp 2]) rfl Tryz.e237 rfl rfl rfl (lbt rfl) ?_
 simp only [BS,LB]
 refine step_ret (xQ S.ok) ?_;intro v h ⟨g,b1,b2,e,e1,e2⟩;replace S:=S.call g;clear g
 subst e
 simp only [BS,LB,Nat.reduceLT,Nat.reduceEqDiff]
 refine ar (wD S.ok e1 e2) ?_;intro h g;replace S:=S.call g;clear g
 simp only [BS,LB,ae,Nat.reduceLT,Nat.reduceEqDiff]
 exact S.gr
theorem tX{h0:Hp}(ok:h0.t.Sized h0.n){x:Int}:bF yt 236 [.int .i64 x] h0 (.bool (decide (wy x<72057594037927936))):=by
 have S:=Si ok
 refine ac (n:=6) (rs:=[.tmp 2]) rfl Tryz.e236 rfl rfl rfl (lbt rfl) ?_
 simp only [BS,LB,Nat.reduceLT,Nat.reduceEqDiff]
 refine ar (pC S.ok) ?_;intro h g;replace S:=S.call g;clear g
 simp only [BS,LB,ae,Nat.reduceLT,Nat.reduceEqDiff]
 exact S.gr
theorem wy_bd(x:Int):0<=wy x/\wy x<=72057594037927936:=by unfold wy;omega
theorem wy_id{x:Int}(h0:0<=x)(h1:x<=72057594037927936):wy x=x:=by unfold wy;omega
end Go.Ab
end
section
namespace Go.Ab
def encV(w:Value):List Value:=[w]
theorem encV_len(w:Value):(encV w).length=1:=rfl
def jL(h:Hp)(m:Nat)(v:Value)(n:Nat)(R:Nat->List Int):Prop:=
 ∃ws:List Value,aC h 1 encV v ws/\ws.length=n/\(∀c,au v c->m<=c)/\ ∀i w,ws[i]? =some w->aC h 1 (encI .i64) w (R i)/\ ∀c,au w c->m<=c
theorem jL.mo{M:Nat->Prop}{h h':Hp}{m n:Nat}{v:Value}{R:Nat->List Int}(r:jL h m v n R)(g:Mo M h h')(hm: ∀b,M b->b<m):jL h' m v n R:=by
 obtain⟨ws,a,b,c,d⟩:=r
 exact⟨ws,a.mo g (fun x hx hM=>by have:=c x hx;have:=hm x hM;omega),b,c,fun i w hw=>⟨(d i w hw).1.mo g (fun x hx hM=>by have:=(d i w hw).2 x hx;have:=hm x hM;omega),(d i w hw).2⟩⟩
theorem jL.gr{h h':Hp}{m n:Nat}{v:Value}{R:Nat->List Int}(r:jL h m v n R)(g:Gr h h'):jL h' m v n R:=r.mo (M:=NoM) g.fr (fun _ h=>h.elim)
theorem jL.low{h:Hp}{m m' n:Nat}{v:Value}{R:Nat->List Int}(r:jL h m v n R)(hm:m'<=m):jL h m' v n R:=by
 obtain⟨ws,a,b,c,d⟩:=r
 exact⟨ws,a,b,fun x hx=>yx hm (c x hx),fun i w hw=>⟨(d i w hw).1,fun x hx=>yx hm ((d i w hw).2 x hx)⟩⟩
theorem jL.row{h:Hp}{m n:Nat}{v:Value}{R:Nat->List Int}(r:jL h m v n R){i:Nat}(hi:i<n): ∃w,(∃c o,jV (some 1) v (.int .i64 (i:Nat))=some (.pointer (some ⟨c,o,none⟩))/\h.load c o 1=some [w])/\aC h 1 (encI .i64) w (R i)/\ ∀c,au w c->m<=c:=by
 obtain⟨ws,a,b,c,d⟩:=r
 obtain⟨q,o,e1,e2⟩:=a.ix (kd:=.i64) encV_len (i:=i) (by omega)
 have hw:ws[i]? =some ws[i]:=yv (by omega)
 exact⟨ws[i],⟨q,o,e1,e2⟩,(d i _ hw).1,(d i _ hw).2⟩
def MayL(N:Nat)(l:List Int):Prop:=l.length<=16/\ ∀i,i<l.length->0<=l.getD i 0/\l.getD i 0<N/\l.getD i 0∉l.take i
theorem MayL.push{N:Nat}{l:List Int}(h:MayL N l)(hl:l.length<16){x:Int}(h0:0<=x)(hN:x<N)(hx:x∉l):MayL N (l++[x]):=by
 refine⟨by simp;omega,fun i hi=>?_⟩
 simp at hi
 by_cases e:i=l.length
 . subst e
   have e1:(l++[x]).getD l.length 0=x:=by simp [yu]
   rw [e1,List.take_left']
   exact⟨h0,hN,hx⟩
   rfl
 . have hil:i<l.length:=by omega
   have e1:(l++[x]).getD i 0=l.getD i 0:=by simp [yu,yL hil]
   rw [e1,List.take_append_of_le_length (by omega)]
   exact h.2 i hil
structure TabAt(h:Hp)(m:Nat)(p:Value)(N:Nat)(marks:List Int)(R Q:Nat->List Int):Prop where
 ex: ∃b vM vT vF,p=ptrTo b/\Row h b [.int .i64 N,vM,vT,vF] 1/\aC h 1 (encI .i64) vM marks/\jL h m vT marks.length R/\jL h m vF marks.length Q/\m<=b/\ ∀c,au vM c->m<=c
theorem TabAt.mo{M:Nat->Prop}{h h':Hp}{m N:Nat}{p:Value}{marks:List Int}{R Q:Nat->List Int}(t:TabAt h m p N marks R Q)(g:Mo M h h')(hm: ∀b,M b->b<m):TabAt h' m p N marks R Q:=by
 obtain⟨b,vM,vT,vF,e,h1,h2,h3,h4,h5,h6⟩:=t.ex
 exact⟨b,vM,vT,vF,e,g.has (o:=.row _ 1) h1 (fun h=>by have:=hm _ h;omega),h2.mo g (fun x hx hM=>by have:=h6 x hx;have:=hm x hM;omega),h3.mo g hm,h4.mo g hm,h5,h6⟩
theorem TabAt.gr{h h':Hp}{m N:Nat}{p:Value}{marks:List Int}{R Q:Nat->List Int}(t:TabAt h m p N marks R Q)(g:Gr h h'):TabAt h' m p N marks R Q:=t.mo (M:=NoM) g.fr (fun _ h=>h.elim)
theorem jL.lenq{h h':Hp}{m n:Nat}{v:Value}{R:Nat->List Int}{e:TypeId}(r:jL h' m v n R):kE (some (.slice e)) h v=some (.val (.int .i64 n),h):=by
 have⟨ws,a,b,_⟩:=r
 rw [<-b];exact a.lenq
end Go.Ab

end
section
namespace Go.Ab
open Go.Proofs
set_option maxRecDepth 10000
noncomputable instance mayDec(N:Nat)(l:List Int):Decidable (MayL N l):=Classical.propDecidable _
open Classical in
noncomputable def dOf(B:List Arc)(s v:Nat):Nat:=if h: ∃x,IsD B s v x then h.choose else 0
theorem dOf_is{B:List Arc}{s v x:Nat}(h:IsD B s v x):dOf B s v=x/\IsD B s v (dOf B s v):=by
 have he: ∃x,IsD B s v x:=⟨x,h⟩
 have e:dOf B s v=he.choose:=by unfold dOf;rw [dif_pos he]
 rw [e]
 exact⟨he.choose_spec.uniq h,he.choose_spec⟩
noncomputable def jW(B:List Arc)(N s:Nat):List Int:=(yr N).map fun v=>((dOf B s v:Nat):Int)
open Tryz in
def Tryz.FFd1a275:=aj a1<|aj s1<|aj z1<|aj n1<|aj u2<|aj a2<|aj s2<|aj z2<|aj i2<|aj u3<|aj a3<|aj s3<|aj z3<|aj i3<|aj u4<|aj a4<|aj s4<|aj z4<|aj n4<|aj u5<|aj a5<|aj s5<|aj z5<|aj i5<|aj u6<|aj a6<|aj s6<|aj z6<|aj i6<|aj u25<|aj a25<|aj s25<|aj z25<|aj q25<|aj n25<|aj a307<|aj s307<|aj z307<|n307
theorem xy{h0:Hp}(ok:h0.t.Sized h0.n){v:Value}{a b:Int}(hv:aC h0 1 (encI .i64) v [a,b]):bF yt 275 [.func (.func 237) #[] #[],v] h0 (.int .i64 (wy (wy (wy a)+wy b))):=by
 have S:=Si ok
 have b1:=wy_bd a
 have b2:=wy_bd b
 have b3:=wy_bd (wy a)
 have w1:aq .i64 1=1:=rfl
 have w2:aq .i64 2=2:=rfl
 have w3:aq .i64 (wy a)=wy a:=by rw [wrap64]<;>omega
 have e0:wy (wy a)=wy a:=wy_id b1.1 b1.2
 have w4:aq .i64 (wy a+wy b)=wy a+wy b:=by rw [wrap64]<;>omega
 refine ac (n:=22) (rs:=[.tmp 4]) rfl Tryz.e275 rfl rfl rfl (lbt rfl) ?_
 simp only [BS,LB,Nat.reduceLT,Nat.reduceEqDiff,Nat.reduceAdd,Int.cast_ofNat_Int,Tryz.FFd1a275,hv.lenq]
 rw [cH]
 obtain⟨c0,o0,i0,l0⟩:=hv.ix (kd:=.i64) (bT .i64) (i:=0) (by simp)
 replace i0:jV (some 1) v (.int .i64 0)=some (.pointer (some ⟨c0,o0,none⟩)):=i0
 replace l0:h0.load c0 o0 1=some [.int .i64 a]:=l0
 simp only [BS,LB,Nat.reduceLT,Nat.reduceEqDiff,Int.reduceLT,Tryz.FFd1a275,i0,l0]
 refine ar (pC S.ok) ?_;intro h g;replace S:=S.call g;clear g
 simp only [BS,LB,Nat.reduceLT,Nat.reduceEqDiff,w3,Int.zero_add]
 refine ar (pC S.ok) ?_;intro h g;replace S:=S.call g;clear g
 simp only [BS,LB,Nat.reduceLT,Nat.reduceEqDiff,w1,e0,Int.zero_add]
 rw [cH]
 obtain⟨c1,o1,i1,l1⟩:=(hv.gr S.gr).ix (kd:=.i64) (bT .i64) (i:=1) (by simp)
 replace i1:jV (some 1) v (.int .i64 1)=some (.pointer (some ⟨c1,o1,none⟩)):=i1
 replace l1:h.load c1 o1 1=some [.int .i64 b]:=l1
 simp only [BS,LB,Nat.reduceLT,Nat.reduceEqDiff,Int.reduceLT,Tryz.FFd1a275,i1,l1]
 refine ar (pC S.ok) ?_;intro h g;replace S:=S.call g;clear g
 simp only [BS,LB,Nat.reduceLT,Nat.reduceEqDiff,w4]
 refine ar (pC S.ok) ?_;intro h g;replace S:=S.call g;clear g
 simp only [BS,LB,Nat.reduceLT,Nat.reduceEqDiff,Int.reduceAdd,w2]
 rw [cH]
 simp only [BS,LB,ae,Nat.reduceLT,Nat.reduceEqDiff,Int.reduceLT]
 exact S.gr
theorem add_ok{h0:Hp}(ok:h0.t.Sized h0.n){a b:Int}:bF yt 268 [.int .i64 a,.int .i64 b] h0 (.int .i64 (wy (wy (wy a)+wy b))):=by
 have S:=Si ok
 refine ac (n:=9) (rs:=[.tmp 4]) rfl Tryz.e268 rfl rfl rfl (lbt rfl) ?_
 simp only [BS,LB,Nat.reduceLT,Nat.reduceEqDiff]
 refine ag (bN (by exact Tryz.u25) (by exact Tryz.e2E) (by decide) (by rfl)) S ?_;clear S;intro h bs S n_bs;simp only [LC,aT,bD,ah,Nat.reduceMul,Nat.reduceAdd,yS,yM,yU,yV]at S
 simp only [BS,LB,Nat.reduceLT,Nat.reduceEqDiff]
 refine ar (xy S.ok (a:=a) (b:=b) (.inr ⟨bs,0,none,2,rfl,yJ _,S.lds (b:=bs) (o:=0) (n:=2*1) m0 (lbt rfl)⟩)) ?_;intro h g;replace S:=S.call g;clear g
 simp only [BS,LB,ae,Nat.reduceLT,Nat.reduceEqDiff]
 exact S.gr
open Tryz in
def Tryz.FFfl328:=aj a1<|aj s1<|aj z1<|aj n1<|aj u2<|aj a2<|aj s2<|aj z2<|aj i2<|aj u3<|aj a3<|aj s3<|aj z3<|aj i3<|aj u4<|aj a4<|aj s4<|aj z4<|aj n4<|aj u30<|aj a30<|aj s30<|aj z30<|aj q30<|aj i30<|aj n30<|aj u38<|aj a38<|aj s38<|aj z38<|aj q38<|aj n38<|aj a117<|aj s117<|aj z117<|aj i117<|aj n117<|aj p117<|aj ff117<|d117
open Tryz in
def Tryz.FFfl3120:=aj a1<|aj s1<|aj z1<|aj n1<|aj u2<|aj a2<|aj s2<|aj z2<|aj i2<|aj u3<|aj a3<|aj s3<|aj z3<|aj i3<|aj u4<|aj a4<|aj s4<|aj z4<|aj n4<|aj a28<|aj s28<|aj z28<|aj i28<|aj n28<|aj p28<|aj ff28<|aj d28<|aj u29<|aj a29<|aj s29<|aj z29<|aj q29<|aj i29<|aj n29<|aj u30<|aj a30<|aj s30<|aj z30<|aj q30<|aj i30<|aj n30<|aj u38<|aj a38<|aj s38<|aj z38<|aj q38<|aj n38<|aj a49<|aj s49<|aj z49<|aj i49<|aj n49<|aj p49<|aj ff49<|aj d49<|aj a117<|aj s117<|aj z117<|aj i117<|aj n117<|aj p117<|aj ff117<|aj d117<|aj u190<|aj a190<|aj s190<|aj z190<|aj q190<|aj n190<|aj a192<|aj s192<|aj z192<|aj i192<|aj n192<|aj p192<|aj ff192<|d192
structure fV(h:Hp)(nb:Nat)(p:Value)(N:Nat)(m:List Int)(c:Nat->Nat):Prop where
 at0:iF h nb p m
 len:m.length=N
 val: ∀v,v<N->m.getD v 0=(c v:Int)
theorem fV.gr{h h':Hp}{nb N:Nat}{p:Value}{m:List Int}{c:Nat->Nat}(x:fV h nb p N m c)(g:Gr h h'):fV h' nb p N m c:=⟨x.at0.gr g,x.len,x.val⟩
theorem fV.keep{h h':Hp}{nb N:Nat}{p:Value}{m:List Int}{c:Nat->Nat}(ok:h.t.Sized h.n)(x:fV h nb p N m c)(g:eo h h'):fV h' nb p N m c:=by
 obtain⟨b,v,rfl,r,s,n1,n2⟩:=x.at0
 exact⟨⟨b,v,rfl,g.row ok r,s.keep ok g,n1,n2⟩,x.len,x.val⟩
theorem lK{h0:Hp}(ok:h0.t.Sized h0.n){nb N:Nat}{p:Value}{m:List Int}{c:Nat->Nat}(x:fV h0 nb p N m c){v:Nat}(hv:v<N):bF yt 28 [p,.int .i64 (v:Nat)] h0 (.int .i64 (c v:Nat)):=by
 have S:=Si ok
 obtain⟨b,vm,rfl,r,s,_,_⟩:=x.at0
 have l0:=r.load1 (o:=0) rfl
 have hl:=x.len
 have c1: ¬(v:Int)<0:=by omega
 have c2: ¬(m.length:Int)<=(v:Int):=by omega
 obtain⟨d,o,x0,y0⟩:=s.ix (kd:=.i64) (bT .i64) (i:=v) (by omega)
 have ev:m[v]'(by omega)=(c v:Int):=by
  rw [<-x.val v hv,yu,yv (by omega)];rfl
 rw [ev]at y0
 replace y0:h0.load d o 1=some [.int .i64 (c v:Nat)]:=y0
 refine ac (n:=27) (rs:=[.tmp 4]) rfl Tryz.e28 rfl rfl rfl (lbt rfl) ?_
 simp only [BS,LB,ae,Nat.reduceLT,Nat.reduceEqDiff,Tryz.FFfl328,c1,l0,s.lenq,c2,x0,y0]
 exact S.gr
theorem inside_ok{h0:Hp}(ok:h0.t.Sized h0.n){nb mb bp N:Nat}{p:Value}{γ:Gra}{m:List Int}{c:Nat->Nat}(hγ:Good γ)(hn:bz h0 nb (ptrTo bp) γ)(x:fV h0 mb p γ.nodes m c){k a:Nat}(ha:a<γ.arcs.length):
 bF yt 120 [ptrTo bp,p,.int .i64 (k:Nat),.int .i64 (a:Nat)] h0 (.bool (decide (c (γ.arcs.getD a default).s=k/\c (γ.arcs.getD a default).t=k))):=by
 have S:=Si ok
 have fp:Fl p:=by obtain⟨b,_,rfl,_⟩:=x.at0;exact dZ
 have ga:γ.arcs[a]=γ.arcs.getD a default:=by simp [yu,ha]
 have hm:γ.arcs.getD a default∈γ.arcs:=by rw [<-ga];exact yy ha
 obtain⟨hs,ht,_⟩:=hγ.arcs _ hm
 refine ac (n:=34) (rs:=[.tmp 8]) rfl Tryz.e120 rfl rfl rfl (lbt rfl) ?_
 simp only [BS,LB,Nat.reduceLT,Nat.reduceEqDiff]
 refine step_ret (iW S.ok hn ha) ?_
 rintro rv h ⟨g4,rfl⟩
 replace S:=S.call g4
 rw [ga]
 generalize γ.arcs.getD a default=A at hs ht
 simp only [BS,LB,Nat.reduceLT,Nat.reduceEqDiff,Tryz.FFfl3120,bw]
 refine ag aw S ?_;clear S;intro h b9 S n_b9
 simp only [BS,LB,Nat.reduceLT,Nat.reduceEqDiff]
 refine aA (S.store (i:=0) rfl ?_ ?_ rfl rfl ?_ ono) ?_
 . exact(by exact zD)
 . exact(by intro x e;cases e)
 . exact lbt rfl
 clear S;rintro h ⟨S,mo⟩;clear mo;simp only [LC,ah,lay,yD,yE,Nat.reduceAdd]at S
 simp only [BS,LB,Nat.reduceLT,Nat.reduceEqDiff,Tryz.FFfl3120,S.ld (b:=b9) (o:=0) m0 rfl]
 refine ar (lK S.ok (x.gr S.gr) hs) ?_
 intro h1 g1;replace S:=S.call g1
 by_cases c1:c A.s=k
 . have c1':(c A.s:Int)=(k:Int):=by omega
   simp only [BS,LB,Nat.reduceLT,Nat.reduceEqDiff,Tryz.FFfl3120,c1',S.ld (b:=b9) (o:=1) m0 rfl]
   refine ar (lK S.ok (x.gr S.gr) ht) ?_
   intro h2 g2;replace S:=S.call g2
   by_cases c2:c A.t=k
   . have c2':(c A.t:Int)=(k:Int):=by omega
     simp only [BS,LB,ae,Nat.reduceLT,Nat.reduceEqDiff,c2']
     exact⟨by rw [decide_eq_true ⟨c1,c2⟩],S.gr⟩
   . have c2': ¬(c A.t:Int)=(k:Int):=by omega
     simp only [BS,LB,ae,Nat.reduceLT,Nat.reduceEqDiff,c2']
     exact⟨by rw [decide_eq_false (fun h=>c2 h.2)],S.gr⟩
 . have c1': ¬(c A.s:Int)=(k:Int):=by omega
   simp only [BS,LB,ae,Nat.reduceLT,Nat.reduceEqDiff,c1']
   exact⟨by rw [decide_eq_false (fun h=>c1 h.1)],S.gr⟩
end Go.Ab
end
section
namespace Go.Ab
open Go.Proofs
set_option maxRecDepth 10000
open Tryz in
def Tryz.FFfl4238:=aj a1<|aj s1<|aj z1<|aj n1<|aj u2<|aj a2<|aj s2<|aj z2<|aj i2<|aj u3<|aj a3<|aj s3<|aj z3<|aj i3<|aj u4<|aj a4<|aj s4<|aj z4<|aj n4<|aj u5<|aj a5<|aj s5<|aj z5<|aj i5<|aj u6<|aj a6<|aj s6<|aj z6<|aj i6<|aj a7<|aj s7<|aj z7<|aj i7<|aj n7<|aj p7<|aj ff7<|aj d7<|aj u38<|aj a38<|aj s38<|aj z38<|aj q38<|aj n38<|aj a124<|aj s124<|aj z124<|n124
open Tryz in
def Tryz.FFfl4199:=aj a1<|aj s1<|aj z1<|aj n1<|aj u2<|aj a2<|aj s2<|aj z2<|aj i2<|aj u3<|aj a3<|aj s3<|aj z3<|aj i3<|aj u4<|aj a4<|aj s4<|aj z4<|aj n4<|aj a28<|aj s28<|aj z28<|aj i28<|aj n28<|aj p28<|aj ff28<|aj d28<|aj u29<|aj a29<|aj s29<|aj z29<|aj q29<|aj i29<|aj n29<|aj u30<|aj a30<|aj s30<|aj z30<|aj q30<|aj i30<|aj n30<|aj u38<|aj a38<|aj s38<|aj z38<|aj q38<|aj n38<|aj a49<|aj s49<|aj z49<|aj i49<|aj n49<|aj p49<|aj ff49<|aj d49<|aj a117<|aj s117<|aj z117<|aj i117<|aj n117<|aj p117<|aj ff117<|aj d117<|aj u190<|aj a190<|aj s190<|aj z190<|aj q190<|aj n190<|aj a192<|aj s192<|aj z192<|aj i192<|aj n192<|aj p192<|aj ff192<|d192
open Tryz in
def Tryz.FFfl4201:=aj a1<|aj s1<|aj z1<|aj n1<|aj u3<|aj a3<|aj s3<|aj z3<|aj i3<|aj u4<|aj a4<|aj s4<|aj z4<|aj n4<|aj a28<|aj s28<|aj z28<|aj i28<|aj n28<|aj p28<|aj ff28<|aj d28<|aj u29<|aj a29<|aj s29<|aj z29<|aj q29<|aj i29<|aj n29<|aj u30<|aj a30<|aj s30<|aj z30<|aj q30<|aj i30<|aj n30<|aj u38<|aj a38<|aj s38<|aj z38<|aj q38<|aj n38<|aj a117<|aj s117<|aj z117<|aj i117<|aj n117<|aj p117<|aj ff117<|aj d117<|aj a124<|aj s124<|aj z124<|aj n124<|aj u190<|aj a190<|aj s190<|aj z190<|aj q190<|aj n190<|aj a192<|aj s192<|aj z192<|aj i192<|aj n192<|aj p192<|aj ff192<|d192
theorem pairN{x:Option Tch}:iv none x=true:=by cases x<;>rfl
theorem eo.grk{hq h0 h:Hp}(k:eo hq h0)(n:hq.n<=h0.n)(g:Gr h0 h):eo hq h:=fun b hb=>(g.get b (yw hb n)).trans (k b hb)
def HoldP(E:Env)(hq:Hp)(g:FuncId)(post:List Value)(N:Nat)(f:Nat->Bool):Prop:= ∀h,h.t.Sized h.n->eo hq h->hq.n<=h.n-> ∀v,v<N->bF E g ([.int .i64 (v:Nat)]++post) h (.bool (f v))
theorem indexI_ok{hq h0:Hp}(ok0:h0.t.Sized h0.n)(kq:eo hq h0)(nq:hq.n<=h0.n){v:Value}{xs:List Nat}{N:Nat}{g:FuncId}{post:Array Value}{f:Nat->Bool}(hv:aC h0 1 bO v xs)(hl:xs.length<=1000)(hx: ∀x∈xs,x<N)(hf:HoldP yt hq g post.toList N f):
 Ret yt 238 [v,.func (.func g) #[] post] h0 fun r h'=>Gr h0 h'/\ ∃z:Int,r=.int .i64 z/\(0<=z↔xs.any f=true):=by
 have S:=Si ok0
 have fv:=hv.fl
 refine ac (n:=19) (rs:=[.tmp 4]) rfl Tryz.e238 rfl rfl rfl (lbt rfl) ?_
 simp only [BS,LB,Nat.reduceLT,Nat.reduceEqDiff,Tryz.FFfl4238,hv.lenq]
 refine aJ (fun(i:Nat) ρ h=>i<=xs.length/\Gr h0 h/\(∀j,(hj:j<xs.length)->j<i->f xs[j]=false)/\ρ 0=v/\ρ 1=.func (.func g) #[] post/\ρ 7=.int .i64 (xs.length:Nat)/\ρ 8=.int .i64 i) (fun i=>xs.length-i) ?_ 0 _ _ ?_
 . clear S
   intro i ih ρ h ⟨hi,g1,hno,r0,r1,r7,r8⟩
   have w:aq .i64 ((i:Int)+1)=((i+1:Nat):Int):=by rw [wrap64]<;>omega
   by_cases hlt:i<xs.length
   . obtain⟨c,o,x0,y0⟩:=(hv.gr g1).ix (kd:=.i64) bQ hlt
     replace y0:h.load c o 1=some [.int .i64 (xs[i]:Nat)]:=y0
     simp only [BS,LB,Nat.reduceLT,Nat.reduceEqDiff,Tryz.FFfl4238,r0,r1,r7,r8,ax,hlt,x0,y0]
     refine ar (hf _ g1.ok (kq.grk nq g1) (yx nq g1.n) xs[i] (hx _ (yy hlt))) ?_
     intro h2 g2
     cases hb:f xs[i]with
     | true=>
       simp only [BS,LB,ae,Nat.reduceLT,Nat.reduceEqDiff]
       refine⟨g1.trans g2,_,rfl,⟨fun _=>List.any_eq_true.2 ⟨_,yy hlt,hb⟩,fun _=>by omega⟩⟩
     | false=>
       simp only [BS,LB,Nat.reduceLT,Nat.reduceEqDiff,r8,w]
       refine ih (i+1) _ _ (by omega) ⟨by omega,g1.trans g2,fun j hj hji=>?_,by simp [aa,r0],by simp [aa,r1],by simp [aa,r7],by simp [aa]⟩
       by_cases e:j=i
       . subst e;exact hb
       . exact hno j hj (by omega)
   . simp only [BS,LB,ae,Nat.reduceLT,Nat.reduceEqDiff,r7,r8,ax,hlt]
     refine⟨g1,_,rfl,⟨fun h=>by omega,fun h=>?_⟩⟩
     obtain⟨x,hm,hb⟩:=List.any_eq_true.1 h
     obtain⟨j,hj,e⟩:=zG hm
     rw [<-e,hno j hj (by omega)]at hb
     cases hb
 . exact⟨yH _,Gr.refl ok0,fun j _ h=>by omega,by simp [aa,cf],by simp [aa,cf],by simp [aa],by simp [aa]⟩
theorem wo{hq h0:Hp}(ok0:h0.t.Sized h0.n)(kq:eo hq h0)(nq:hq.n<=h0.n){v:Value}{xs:List Nat}{N:Nat}{g:FuncId}{post:Array Value}{f:Nat->Bool}(hv:aC h0 1 bO v xs)(hl:xs.length<=1000)(hx: ∀x∈xs,x<N)(hf:HoldP yt hq g post.toList N f):
 bF yt 172 [v,.func (.func g) #[] post] h0 (.bool (xs.any f)):=by
 have S:=Si ok0
 have fv:=hv.fl
 refine ac (n:=9) (rs:=[.tmp 4]) rfl Tryz.e172 rfl rfl rfl (lbt rfl) ?_
 simp only [BS,LB,Nat.reduceLT,Nat.reduceEqDiff]
 refine step_ret (indexI_ok ok0 kq nq hv hl hx hf) ?_
 rintro r h ⟨g1,z,rfl,hz⟩
 cases hb:xs.any f with
 | true=>
   have c0:=hz.2 hb
   simp only [BS,LB,ae,Nat.reduceLT,Nat.reduceEqDiff,c0]
   exact g1
 | false=>
   have c0: ¬0<=z:=fun h=>by rw [hz.1 h]at hb;cases hb
   simp only [BS,LB,ae,Nat.reduceLT,Nat.reduceEqDiff,c0]
   exact g1
section
variable{hq:Hp}{γ:Gra}{nb mb bp k:Nat}{p:Value}{m:List Int}{c:Nat->Nat}
def beyB(γ:Gra)(c:Nat->Nat)(k a:Nat):Bool:=!decide (c (γ.arcs.getD a default).s=k)
theorem beyond_ok(okq:hq.t.Sized hq.n)(hγ:Good γ)(hn:bz hq nb (ptrTo bp) γ)(x:fV hq mb p γ.nodes m c){b1 b2 b3:Nat}(l1:hq.load b1 0 1=some [ptrTo bp])(l2:hq.load b2 0 1=some [p])(l3:hq.load b3 0 1=some [.int .i64 (k:Nat)]):
 HoldP yt hq 199 [ptrTo b1,ptrTo b2,ptrTo b3] γ.arcs.length (beyB γ c k):=by
 intro h ok g nq a ha
 have S:=Si ok
 have ga:γ.arcs[a]=γ.arcs.getD a default:=by simp [yu,ha]
 have hm:γ.arcs.getD a default∈γ.arcs:=by rw [<-ga];exact yy ha
 obtain⟨hs,ht,_⟩:=hγ.arcs _ hm
 refine ac (n:=24) (rs:=[.tmp 5]) rfl Tryz.e199 rfl rfl rfl (lbt rfl) ?_
 simp only [BS,LB,Nat.reduceLT,Nat.reduceEqDiff,Tryz.FFfl4199,g.load okq l1]
 refine step_ret (iW S.ok (hn.keep okq g) ha) ?_
 rintro rv h4 ⟨g4,rfl⟩
 replace S:=S.call g4
 unfold beyB
 rw [ga]
 generalize γ.arcs.getD a default=A at hs ht
 simp only [BS,LB,Nat.reduceLT,Nat.reduceEqDiff,Tryz.FFfl4199,bw]
 refine ag aw S ?_;clear S;intro h b6 S n_b6
 simp only [BS,LB,Nat.reduceLT,Nat.reduceEqDiff]
 refine aA (S.store (i:=0) rfl ?_ ?_ rfl rfl ?_ ono) ?_
 . exact(by exact zD)
 . exact(by intro x e;cases e)
 . exact lbt rfl
 clear S;rintro h ⟨S,mo⟩;clear mo;simp only [LC,ah,lay,yD,yE,Nat.reduceAdd]at S
 have gg:=g.grk nq S.gr
 obtain⟨b,vm,rfl,r,s,_,_⟩:=(x.keep okq gg).at0
 have l0:=r.load1 (o:=0) rfl
 have hl:=x.len
 obtain⟨d,o,x0,y0⟩:=s.ix (kd:=.i64) (bT .i64) (i:=A.s) (by omega)
 have ev:m[A.s]'(by omega)=(c A.s:Int):=by
  rw [<-x.val A.s hs,yu,yv (by omega)];rfl
 rw [ev]at y0
 simp only [encI]at y0
 simp only [BS,LB,Nat.reduceLT,Nat.reduceEqDiff]
 refine ay (aF rfl) (q:=0) (ps:=[]) (by kernel_rfl) ?_
 by_cases c1:c A.s=k
 . have c1':(c A.s:Int)=(k:Int):=by omega
   simp only [BS,LB,cls,ae,Nat.reduceLT,Nat.reduceEqDiff,Nat.reduceAdd,Nat.reducePow,Nat.reduceDiv,Nat.reduceMod,Nat.reduceLeDiff,Tryz.FFfl4199,gg.load okq l2,gg.load okq l3,l0,x0,y0,c1',S.ld (b:=b6) (o:=0) m0 rfl]
   exact⟨by rw [decide_eq_true c1];rfl,S.gr⟩
 . have c1': ¬(c A.s:Int)=(k:Int):=by omega
   simp only [BS,LB,cls,ae,Nat.reduceLT,Nat.reduceEqDiff,Nat.reduceAdd,Nat.reducePow,Nat.reduceDiv,Nat.reduceMod,Nat.reduceLeDiff,Tryz.FFfl4199,gg.load okq l2,gg.load okq l3,l0,x0,y0,c1',S.ld (b:=b6) (o:=0) m0 rfl]
   exact⟨by rw [decide_eq_false c1];rfl,S.gr⟩
def jd(γ:Gra)(c:Nat->Nat)(k v:Nat):Bool:=decide (c v=k)&&(outs γ.arcs Arc.t γ.arcs.length v).any (beyB γ c k)
theorem qL{v:Nat}:jd γ c k v=true↔c v=k/\ ∃e∈γ.arcs,e.t=v/\c e.s≠k:=by
 unfold jd
 rw [Bool.and_eq_true,decide_eq_true_eq,List.any_eq_true]
 refine and_congr_right fun _=>?_
 constructor
 . rintro⟨a,ha,hb⟩
   obtain⟨h1,h2⟩:=fN.1 ha
   have hm:γ.arcs.getD a default∈γ.arcs:=by rw [yu,yv h1];exact yy h1
   refine⟨_,hm,h2,fun e=>?_⟩
   unfold beyB at hb
   rw [decide_eq_true e]at hb;cases hb
 . rintro⟨e,he,h1,h2⟩
   obtain⟨i,hi,ei⟩:=zG he
   have e':γ.arcs.getD i default=e:=by rw [yu,yv hi,ei];rfl
   refine⟨i,fN.2 ⟨hi,by rw [e'];exact h1⟩,?_⟩
   unfold beyB
   rw [e',decide_eq_false h2];rfl
theorem xP(okq:hq.t.Sized hq.n)(hγ:Good γ)(hn:bz hq nb (ptrTo bp) γ)(x:fV hq mb p γ.nodes m c){b1 b2 b3 b4:Nat}(l1:hq.load b1 0 1=some [p])(l2:hq.load b2 0 1=some [.int .i64 (k:Nat)])(l3:hq.load b3 0 1=some [ptrTo bp])(l4:hq.load b4 0 1=some [.func (.func 199) #[] #[ptrTo b3,ptrTo b1,ptrTo b2]]):
 HoldP yt hq 201 [ptrTo b1,ptrTo b2,ptrTo b3,ptrTo b4] γ.nodes (jd γ c k):=by
 intro h ok g nq v hv
 have S:=Si ok
 obtain⟨b,vm,rfl,r,s,_,_⟩:=(x.keep okq g).at0
 have l0:=r.load1 (o:=0) rfl
 have hl:=x.len
 obtain⟨d,o,x0,y0⟩:=s.ix (kd:=.i64) (bT .i64) (i:=v) (by omega)
 have ev:m[v]'(by omega)=(c v:Int):=by
  rw [<-x.val v hv,yu,yv (by omega)];rfl
 rw [ev]at y0
 replace y0:h.load d o 1=some [.int .i64 (c v:Nat)]:=y0
 have k1:=g.load okq l1
 have k2:=g.load okq l2
 have k3:=g.load okq l3
 have k4:=g.load okq l4
 have z1:=bH ok k1
 have z2:=bH ok k2
 have z3:=bH ok k3
 have z4:=bH ok k4
 have zb:=r.lt ok
 have zd:=bH ok y0
 unfold jd
 by_cases c1:c v=k
 . have c1':(c v:Int)=(k:Int):=by omega
   refine ac (n:=23) (rs:=[.tmp 6]) rfl Tryz.e201 rfl rfl rfl (lbt rfl) ?_
   simp only [BS,LB]
   refine ay (aF rfl) (q:=0) (ps:=[(12,13)]) (by kernel_rfl) ?_
   simp only [BS,LB,cls,Nat.reduceLT,Nat.reduceEqDiff,Nat.reduceAdd,Nat.reducePow,Nat.reduceDiv,Nat.reduceMod,Nat.reduceLeDiff,Tryz.FFfl4201,k1,k2,k3,l0,x0,y0,c1']
   refine dp (uX S.ok (hn.keep okq g) (by have:=hγ.many;omega) hv) ?_
   rintro vl h2 ⟨g2,sl,_⟩
   have u1:=az g2 z1
   have u2:=az g2 z2
   have u3:=az g2 z3
   have u4:=az g2 z4
   have ub:=az g2 zb
   have ud:=az g2 zd
   replace S:=S.call g2
   simp only [BS,LB,cls,Nat.reduceLT,Nat.reduceEqDiff,Nat.reduceAdd,Nat.reducePow,Nat.reduceDiv,Nat.reduceMod,Nat.reduceLeDiff,Tryz.FFfl4201,g2.load k4]
   refine cy (wo S.ok (g.grk nq g2) (yx nq g2.n) sl (by have:=hγ.many;have:=jP γ.arcs Arc.t γ.arcs.length v;omega) (fun a ha=>(fN.1 ha).1) (post:=#[ptrTo b3,ptrTo b1,ptrTo b2]) (beyond_ok okq hγ hn x l3 l1 l2)) ?_
   intro h3 g3
   have w1:=az g3 (yw z1 g2.n)
   have w2:=az g3 (yw z2 g2.n)
   have w3:=az g3 (yw z3 g2.n)
   have w4:=az g3 (yw z4 g2.n)
   have wb:=az g3 (yw zb g2.n)
   have wd:=az g3 (yw zd g2.n)
   replace S:=S.call g3
   simp only [BS,LB,cls,ae,Nat.reduceLT,Nat.reduceEqDiff,Nat.reduceAdd,Nat.reducePow,Nat.reduceDiv,Nat.reduceMod,Nat.reduceLeDiff]
   refine⟨by simp only [bj,bC,aW,bA,aZ,ne_eq,not_false_eq_true,bG,bU,bg,aY,bS,cM,aN,Nat.reduceLT,Nat.reduceEqDiff,reduceIte,yF,ab,aQ,ce,aR u1,aR u2,aR u3,aR u4,aR ub,aR ud,aM u1,aM u2,aM u3,aM u4,aM ub,aM ud,aR w1,aR w2,aR w3,aR w4,aR wb,aR wd,aM w1,aM w2,aM w3,aM w4,aM wb,aM wd],?_⟩
   exact⟨by rw [decide_eq_true c1,Bool.true_and],S.gr⟩
 . have c1': ¬(c v:Int)=(k:Int):=by omega
   refine ac (n:=23) (rs:=[.tmp 6]) rfl Tryz.e201 rfl rfl rfl (lbt rfl) ?_
   simp only [BS,LB]
   refine ay (aF rfl) (q:=0) (ps:=[(12,13)]) (by kernel_rfl) ?_
   simp only [BS,LB,cls,ae,Nat.reduceLT,Nat.reduceEqDiff,Nat.reduceAdd,Nat.reducePow,Nat.reduceDiv,Nat.reduceMod,Nat.reduceLeDiff,Tryz.FFfl4201,k1,k2,l0,x0,y0,c1']
   refine⟨by simp only [bj,bC,aW,bA,aZ,ne_eq,not_false_eq_true,bG,bU,bg,aY,bS,cM,aN,Nat.reduceLT,Nat.reduceEqDiff,reduceIte,yF,ab,aQ,ce,pA,pairN],?_⟩
   exact⟨by rw [decide_eq_false c1,Bool.false_and],S.gr⟩
end
end Go.Ab

end
section
namespace Go.Ab
open Go.Proofs
set_option maxRecDepth 10000
open Tryz in
def Tryz.FFfl5246:=aj a1<|aj s1<|aj z1<|aj n1<|aj u2<|aj a2<|aj s2<|aj z2<|aj i2<|aj u3<|aj a3<|aj s3<|aj z3<|aj i3<|aj u4<|aj a4<|aj s4<|aj z4<|aj n4<|aj u5<|aj a5<|aj s5<|aj z5<|aj i5<|aj u30<|aj a30<|aj s30<|aj z30<|aj q30<|aj i30<|aj n30<|aj u38<|aj a38<|aj s38<|aj z38<|aj q38<|aj n38<|aj a117<|aj s117<|aj z117<|aj i117<|aj n117<|aj p117<|aj ff117<|aj d117<|aj a124<|aj s124<|aj z124<|n124
open Tryz in
def Tryz.FFfl5121:=aj a1<|aj s1<|aj z1<|aj n1<|aj u2<|aj a2<|aj s2<|aj z2<|aj i2<|aj u3<|aj a3<|aj s3<|aj z3<|aj i3<|aj u4<|aj a4<|aj s4<|aj z4<|aj n4<|aj a28<|aj s28<|aj z28<|aj i28<|aj n28<|aj p28<|aj ff28<|aj d28<|aj u29<|aj a29<|aj s29<|aj z29<|aj q29<|aj i29<|aj n29<|aj u30<|aj a30<|aj s30<|aj z30<|aj q30<|aj i30<|aj n30<|aj u38<|aj a38<|aj s38<|aj z38<|aj q38<|aj n38<|aj a110<|aj s110<|aj z110<|aj n110<|aj a117<|aj s117<|aj z117<|aj i117<|aj n117<|aj p117<|aj ff117<|aj d117<|aj a124<|aj s124<|aj z124<|aj n124<|aj u190<|aj a190<|aj s190<|aj z190<|aj q190<|aj n190<|aj a192<|aj s192<|aj z192<|aj i192<|aj n192<|aj p192<|aj ff192<|d192
open Tryz in
def Tryz.FFfl5247:=aj a1<|aj s1<|aj z1<|aj n1<|aj u3<|aj a3<|aj s3<|aj z3<|aj i3<|aj u4<|aj a4<|aj s4<|aj z4<|aj n4<|aj a28<|aj s28<|aj z28<|aj i28<|aj n28<|aj p28<|aj ff28<|aj d28<|aj u29<|aj a29<|aj s29<|aj z29<|aj q29<|aj i29<|aj n29<|aj u190<|aj a190<|aj s190<|aj z190<|aj q190<|aj n190<|aj a192<|aj s192<|aj z192<|aj i192<|aj n192<|aj p192<|aj ff192<|d192
open Tryz in
def Tryz.FFfl5267:=aj a1<|aj s1<|aj z1<|aj n1<|aj u2<|aj a2<|aj s2<|aj z2<|aj i2<|aj u3<|aj a3<|aj s3<|aj z3<|aj i3<|aj u4<|aj a4<|aj s4<|aj z4<|aj n4<|aj u25<|aj a25<|aj s25<|aj z25<|aj q25<|aj n25<|aj a28<|aj s28<|aj z28<|aj i28<|aj n28<|aj p28<|aj ff28<|aj d28<|aj u29<|aj a29<|aj s29<|aj z29<|aj q29<|aj i29<|aj n29<|aj u38<|aj a38<|aj s38<|aj z38<|aj q38<|aj n38<|aj a49<|aj s49<|aj z49<|aj i49<|aj n49<|aj p49<|aj ff49<|aj d49<|aj u190<|aj a190<|aj s190<|aj z190<|aj q190<|aj n190<|aj a192<|aj s192<|aj z192<|aj i192<|aj n192<|aj p192<|aj ff192<|aj d192<|aj a246<|aj s246<|aj z246<|aj i246<|aj n246<|aj p246<|aj ff246<|d246
open Tryz in
def Tryz.FFfl5250:=aj a1<|aj s1<|aj z1<|aj n1<|aj u2<|aj a2<|aj s2<|aj z2<|aj i2<|aj u3<|aj a3<|aj s3<|aj z3<|aj i3<|aj u25<|aj a25<|aj s25<|aj z25<|aj q25<|aj n25<|aj a28<|aj s28<|aj z28<|aj i28<|aj n28<|aj p28<|aj ff28<|aj d28<|aj u29<|aj a29<|aj s29<|aj z29<|aj q29<|aj i29<|aj n29<|aj u38<|aj a38<|aj s38<|aj z38<|aj q38<|aj n38<|aj a124<|aj s124<|aj z124<|aj n124<|aj u190<|aj a190<|aj s190<|aj z190<|aj q190<|aj n190<|aj a192<|aj s192<|aj z192<|aj i192<|aj n192<|aj p192<|aj ff192<|aj d192<|aj a246<|aj s246<|aj z246<|aj i246<|aj n246<|aj p246<|aj ff246<|d246
theorem cnodes_ok{h0:Hp}(ok:h0.t.Sized h0.n){p ve:Value}(f1:Fl p)(f2:Fl ve):Ret yt 200 [p,ve] h0 fun v h'=>Gr h0 h'/\ ∃b1 b2,v=.func (.func 246) #[] #[ptrTo b1,ptrTo b2]/\h0.n<=b1/\h0.n<=b2/\h'.load b1 0 1=some [p]/\h'.load b2 0 1=some [ve]:=by
 have S:=Si ok
 refine ac (n:=6) (rs:=[.tmp 4]) rfl Tryz.e200 rfl rfl rfl (lbt rfl) ?_
 simp only [BS,Nat.reduceLT]
 refine ag (cC (by assumption)) S ?_;clear S;intro h b1 S n_b1
 simp only [BS,Nat.reduceLT,Nat.reduceEqDiff,if_false]
 refine ag (cC (by assumption)) S ?_;clear S;intro h b2 S n_b2
 simp only [BS,LB,ae,Nat.reduceLT,Nat.reduceEqDiff]
 exact⟨S.gr,b1,b2,rfl,n_b1,n_b2,S.ld m1 rfl,S.ld m0 rfl⟩
theorem cnodes_it {hq h0:Hp} (okq:hq.t.Sized hq.n) (ok0:h0.t.Sized h0.n) (kq:eo hq h0) (nq:hq.n<=h0.n) {mb N:Nat} {p:Value} {m:List Int} {c:Nat->Nat} (x:fV hq mb p N m c) (hN:N<=1000) {b1 b2:Nat} {g:FuncId} {post:Array Value} {f:Nat->Bool} (hf:HoldP yt hq g post.toList N f)
 (e1:h0.load b1 0 1=some [p]) (e2:h0.load b2 0 1=some [.func (.func g) #[] post]):
 ng yt 246 [] [ptrTo b1,ptrTo b2] h0 (fun c=>c=b1\/c=b2\/c<hq.n) (((yr N).filter f).map fun(v:Nat)=>[.int .i64 (v:Nat)]):=by
 intro lb J Z hz Y h F s hj
 have l1:=s.load ok0 e1 (.inl rfl)
 obtain⟨b,vm,rfl,r,sm,_,_⟩:=(x.keep okq (s.keep kq nq (fun c hc=>.inr (.inr hc)))).at0
 have l0:=r.load1 (o:=0) rfl
 have hl:=x.len
 have hlI:(m.length:Int)=(N:Int):=by omega
 refine enter (n:=25) (rs:=[]) rfl Tryz.e246 rfl rfl rfl (lbt rfl) ?_
 simp only [BS,LB,Nat.reduceLT,Nat.reduceEqDiff,Tryz.FFfl5246,l1,l0,sm.lenq,hlI]
 refine aJ (fun(i:Nat) ρ h=>i<=N/\ ∃F,ItS h0 (fun c=>c=b1\/c=b2\/c<hq.n) h F/\J ((yr i).filter f).length h F/\ρ 0=.func (.yield lb) #[] #[]/\ρ 1=ptrTo b1/\ρ 2=ptrTo b2/\ρ 11=.int .i64 (N:Nat)/\ρ 12=.int .i64 i) (fun i=>N-i) ?_ 0 _ _ ?_
 . clear l1 s hj F r sm l0 h
   intro i ih ρ h ⟨hi,F,s,hj,r0,r1,r2,r11,r12⟩
   have w:aq .i64 ((i:Int)+1)=((i+1:Nat):Int):=by rw [wrap64]<;>omega
   by_cases hlt:i<N
   . have l2:=s.load ok0 e2 (.inr (.inl rfl))
     simp only [BS,LB,Nat.reduceLT,Nat.reduceEqDiff,Tryz.FFfl5246,r2,r11,r12,ax,hlt,l2]
     refine ar (hf _ s.ok (s.keep kq nq (fun c hc=>.inr (.inr hc))) (yx nq s.n) i hlt) ?_
     intro h2 g2
     cases hb:f i with
     | true=>
       have hx:(((yr N).filter f).map fun(v:Nat)=>[Value.int .i64 (v:Nat)])[((yr i).filter f).length]? =some [.int .i64 (i:Nat)]:=by
        rw [yA,pj hb _ hlt];rfl
       have ln:((yr (i+1)).filter f).length=((yr i).filter f).length+1:=by rw [eB,if_pos hb];simp
       simp only [BS,LB,Nat.reduceLT,Nat.reduceEqDiff,r0]
       refine dw Y (s.gr g2) (Y.gr _ _ _ _ hj g2) (i:=((yr i).filter f).length) hx ?_ ?_ ?_
       . intro h3 F3 a s3 _ _
         simp only [BS,LB,Nat.reduceLT,Nat.reduceEqDiff,r12,w]
         exact ih (i+1) _ _ (by omega) ⟨by omega,F3,s3,by rw [ln];exact a,by simp [aa,r0],by simp [aa,r1,ab],by simp [aa,r2,ab],by simp [aa,r11],by simp [aa]⟩
       . intro h3 a _
         simp only [BS,LB,Nat.reduceLT,Nat.reduceEqDiff]
         exact eS rfl ⟨rfl,.inr (.inl ⟨_,rfl,a⟩)⟩
       . intro v h3 a
         exact absurd a (hz v h3)
     | false=>
       have ln:(yr (i+1)).filter f=(yr i).filter f:=by rw [eB,if_neg (by rw [hb];decide)];simp
       simp only [BS,LB,Nat.reduceLT,Nat.reduceEqDiff,r12,w]
       exact ih (i+1) _ _ (by omega) ⟨by omega,F,s.gr g2,by rw [ln];exact Y.gr _ _ _ _ hj g2,by simp [aa,r0],by simp [aa,r1,ab],by simp [aa,r2,ab],by simp [aa,r11],by simp [aa]⟩
   . simp only [BS,LB,Nat.reduceLT,r11,r12,ax,hlt]
     have:i=N:=by omega
     subst this
     exact cR (dh ⟨rfl,_,rfl,rfl,.inl ⟨_,F,rfl,by simpa using hj⟩⟩)
 . exact⟨yH _,F,s,hj,by simp [aa,cf],by simp [aa,cf,ab],by simp [aa,cf,ab],by simp [aa],by simp [aa]⟩
theorem border_ok{h0:Hp}(ok:h0.t.Sized h0.n){γ:Gra}{nb mb bp k:Nat}{p:Value}{m:List Int}{c:Nat->Nat}(hγ:Good γ)(hn:bz h0 nb (ptrTo bp) γ)(x:fV h0 mb p γ.nodes m c):
 Ret yt 121 [p,ptrTo bp,.int .i64 (k:Nat)] h0 fun r h'=>Gr h0 h'/\aC h' 1 bO r ((yr γ.nodes).filter (jd γ c k))/\ ∀c,au r c->h0.n<=c:=by
 have S:=Si ok
 have fp:Fl p:=by obtain⟨b,_,rfl,_⟩:=x.at0;exact dZ
 obtain⟨bc,vm,rfl,r,s,_,_⟩:=x.at0
 have l0:=r.load1 (o:=0) rfl
 have hl:=x.len
 have n1:=hγ.n1
 have n2:=hγ.n2
 have hlI:(m.length:Int)=(γ.nodes:Int):=by omega
 obtain⟨dv,ov,sv,cv,ev⟩: ∃d o s c,vm=.slice (some ⟨d,o,s⟩) m.length c:=by
  rcases s with⟨_,e⟩|⟨d,o,s,c,e,_⟩
  . subst e;simp at hl;omega
  . exact⟨d,o,s,c,e⟩
 subst ev
 have zd0:dv<h0.n:=s.lt ok (b:=dv) rfl
 refine ac (n:=29) (rs:=[.tmp 6]) rfl Tryz.e121 rfl rfl rfl (lbt rfl) ?_
 simp only [BS,Nat.reduceLT]
 refine ag (cC (by exact dZ)) S ?_;clear S;intro h b3 S n_b3
 simp only [BS,Nat.reduceLT,Nat.reduceEqDiff,if_false]
 refine ag (cC (by exact dZ)) S ?_;clear S;intro h b4 S n_b4
 simp only [BS,Nat.reduceLT,Nat.reduceEqDiff,if_false]
 refine ag (cC (by exact bu)) S ?_;clear S;intro h b5 S n_b5
 have z3:=(S.row (b:=b3) m2).lt S.ok
 have z4:=(S.row (b:=b4) m1).lt S.ok
 have zc:=yw (r.lt ok) S.gr.n
 have zd:=yw zd0 S.gr.n
 have l0':=S.gr.load l0
 have s':=s.gr S.gr
 simp only [BS]
 refine ay (aF rfl) (q:=0) (ps:=[(8,13),(8,12),(8,9)]) (by kernel_rfl) ?_
 simp only [BS,LB,cls,Nat.reduceLT,Nat.reduceEqDiff,Nat.reduceAdd,Nat.reducePow,Nat.reduceDiv,Nat.reduceMod,Nat.reduceLeDiff,Tryz.FFfl5121,S.ld (b:=b3) (o:=0) m2 rfl,S.ld (b:=b4) (o:=0) m1 rfl]
 refine cy (cD S.ok (hn.gr S.gr)) ?_
 intro h1 g1
 have v3:=az g1 z3
 have v4:=az g1 z4
 have vc:=az g1 zc
 have vd:=az g1 zd
 have l0'':=g1.load l0'
 replace S:=S.call g1
 simp only [BS,LB,cls,Nat.reduceLT,Nat.reduceEqDiff,Nat.reduceAdd,Nat.reducePow,Nat.reduceDiv,Nat.reduceMod,Nat.reduceLeDiff,Tryz.FFfl5121,l0'',s'.lenq,hlI,S.ld (b:=b3) (o:=0) m2 rfl,S.ld (b:=b4) (o:=0) m1 rfl]
 refine⟨by simp only [bj,bC,aW,bA,aZ,ne_eq,not_false_eq_true,bG,bU,bg,aY,bS,cM,aN,Nat.reduceLT,Nat.reduceEqDiff,reduceIte,yF,ab,uK,aR v3,aR v4,aR vc,aM v3,aM v4,aM vc,aR vd,aM vd],?_⟩
 refine ag aw S ?_;clear S;intro h b7 S n_b7
 simp only [BS,LB,Nat.reduceLT,Nat.reduceEqDiff]
 refine aA (aB S (i:=0) rfl Tryz.s124 jj (yz (lbt rfl)) ono) ?_
 clear S;rintro h2 ⟨S,_⟩
 simp only [LC]at S
 simp only [BS,LB,Nat.reduceLT,Nat.reduceEqDiff,Tryz.FFfl5121,S.ld (b:=b3) (o:=0) m3 rfl]
 have gq:=S.gr
 have okq:=S.ok
 have l3:=S.ld (b:=b3) (o:=0) m3 rfl
 have l4:=S.ld (b:=b4) (o:=0) m2 rfl
 have l5:=S.ld (b:=b5) (o:=0) m1 rfl
 have l7:=S.ld (b:=b7) (o:=0) m0 rfl
 have hf:=xP okq hγ (hn.gr gq) (x.gr gq) l3 l5 l4 l7
 refine step_ret (cnodes_ok S.ok dZ jj) ?_
 rintro v h4 ⟨g,b1,b2,rfl,n1,n2',y1,y2⟩
 have it:=cnodes_it okq g.ok g.keep g.n (x.gr gq) (by omega) (g:=201) (post:=#[ptrTo b3,ptrTo b5,ptrTo b4,ptrTo b7]) hf y1 y2
 replace S:=S.call g
 simp only [BS,LB,Nat.reduceLT,Nat.reduceEqDiff]
 refine step_ret (qt S.ok (g:=246) (post:=#[ptrTo b1,ptrTo b2]) (iter_w it) (fun _ h=>h.elim) (by have:=iH (n:=γ.nodes) (f:=jd γ c k);omega)) ?_
 rintro r h5 ⟨f5,G5,d5⟩
 have g5:=f5.gr
 have k5:=S.fr.n
 replace S:=S.call g5
 simp only [BS,LB,ae,Nat.reduceLT,Nat.reduceEqDiff]
 exact⟨S.gr,G5.sl rfl bQ (by decide),fun c hc=>by have:=d5 c hc;omega⟩
theorem yb{h0:Hp}(ok:h0.t.Sized h0.n){γ:Gra}{nb bp b:Nat}(hn:bz h0 nb (ptrTo bp) γ)(hb:b<γ.nodes):bF yt 247 [ptrTo bp,.int .i64 (b:Nat)] h0 (.bool true):=by
 have S:=Si ok
 have c0:(0:Int)<=(b:Int):=by omega
 have c1:(b:Int)<(γ.nodes:Int):=by omega
 refine ac (n:=17) (rs:=[.tmp 4]) rfl Tryz.e247 rfl rfl rfl (lbt rfl) ?_
 simp only [BS,LB,Nat.reduceLT,Nat.reduceEqDiff,Tryz.FFfl5247,c0]
 refine ar (cD S.ok hn) ?_
 intro h1 g1
 simp only [BS,LB,ae,Nat.reduceLT,Nat.reduceEqDiff,c1]
 exact g1
noncomputable def dW(γ:Gra)(b a:Nat):Bool:=decide (dOf (seen γ.arcs Arc.t Arc.s) b (γ.arcs.getD a default).s<FAR/\dOf (seen γ.arcs Arc.t Arc.s) b (γ.arcs.getD a default).t<FAR/\dOf (seen γ.arcs Arc.t Arc.s) b (γ.arcs.getD a default).s=(γ.arcs.getD a default).w+dOf (seen γ.arcs Arc.t Arc.s) b (γ.arcs.getD a default).t)
def HoldA(E:Env)(hq:Hp)(x:Nat)(g:FuncId)(post:List Value)(N:Nat)(f:Nat->Bool):Prop:= ∀h,h.t.Sized h.n->(∀b,b<hq.n->b≠x->h.get b=hq.get b)->hq.n<=h.n-> ∀v,v<N->bF E g ([.int .i64 (v:Nat)]++post) h (.bool (f v))
theorem jF{h h':Hp}{b o n:Nat}{l:List Value}(e:h.load b o n=some l)(g:h'.get b=h.get b):h'.load b o n=some l:=by
 unfold Hp.load at e⊢
 rw [g];exact e
theorem sl_get{α:Type}{h h':Hp}{k:Nat}{enc:α->List Value}{v:Value}{xs:List α}(s:aC h k enc v xs)(g: ∀c,au v c->h'.get c=h.get c):aC h' k enc v xs:=by
 rcases s with s|⟨b,o,s,c,h1,h2,h3⟩
 . exact .inl s
 . exact .inr ⟨b,o,s,c,h1,h2,jF h3 (g b (by rw [h1];rfl))⟩
theorem tells1_ok{hn0 hq:Hp}(okn:hn0.t.Sized hn0.n)(okq:hq.t.Sized hq.n)(kn:eo hn0 hq)(nn:hn0.n<=hq.n){x:Nat}(hx:hn0.n<=x){γ:Gra}(hγ:Good γ){nb bp b b2 b5:Nat}(hn:bz hn0 nb (ptrTo bp) γ)(x2:b2≠x)(x5:b5≠x)(hD: ∀v,IsD (seen γ.arcs Arc.t Arc.s) b v (dOf (seen γ.arcs Arc.t Arc.s) b v)){vD vA vO:Value}(l2:hq.load b2 0 1=some [ptrTo bp])(l5:hq.load b5 0 1=some [vD])(sD:aC hq 1 bO vD ((yr γ.nodes).map (dOf (seen γ.arcs Arc.t Arc.s) b)))(xD: ∀c,au vD c->c≠x):
 HoldA yt hq x 267 [ptrTo b2,ptrTo b5] γ.arcs.length (dW γ b):=by
 intro h ok k nq a ha
 have kN:eo hn0 h:=fun c hc=>(k c (yw hc nn) (by omega)).trans (kn c hc)
 have nN:hn0.n<=h.n:=yx nn nq
 have e2:=jF l2 (k b2 (bH okq l2) x2)
 have e5:=jF l5 (k b5 (bH okq l5) x5)
 have sD0:aC h 1 bO vD _:=sl_get sD (fun c hc=>k c (sD.lt okq hc) (xD c hc))
 have S:=Si ok
 have ga:γ.arcs[a]=γ.arcs.getD a default:=by simp [yu,ha]
 have hm:γ.arcs.getD a default∈γ.arcs:=by rw [<-ga];exact yy ha
 obtain⟨hs,ht,hw⟩:=hγ.arcs _ hm
 unfold dW
 have ds:=hD (γ.arcs.getD a default).s
 have dt:=hD (γ.arcs.getD a default).t
 generalize hd:dOf (seen γ.arcs Arc.t Arc.s) b=d at ds dt sD0
 refine ac (n:=35) (rs:=[.tmp 4]) rfl Tryz.e267 rfl rfl rfl (lbt rfl) ?_
 simp only [BS,LB,Nat.reduceLT,Nat.reduceEqDiff,Tryz.FFfl5267,e2]
 refine step_ret (iW S.ok (hn.keep okn kN) ha) ?_
 rintro rv h4 ⟨g4,rfl⟩
 replace S:=S.call g4
 rw [ga]
 generalize γ.arcs.getD a default=A at hs ht hw ds dt
 simp only [BS,LB,Nat.reduceLT,Nat.reduceEqDiff,Tryz.FFfl5267,bw]
 refine ag aw S ?_;clear S;intro h b6 S n_b6
 simp only [BS,LB,Nat.reduceLT,Nat.reduceEqDiff]
 refine aA (S.store (i:=0) rfl ?_ ?_ rfl rfl ?_ ono) ?_
 . exact(by exact zD)
 . exact(by intro x e;cases e)
 . exact lbt rfl
 clear S;rintro h ⟨S,mo⟩;clear mo;simp only [LC,ah,lay,yD,yE,Nat.reduceAdd]at S
 have sD':=sD0.gr S.gr
 have lD:((yr γ.nodes).map d).length=γ.nodes:=by simp
 obtain⟨c1,o1,x1,y1⟩:=sD'.ix (kd:=.i64) bQ (i:=A.t) (by omega)
 obtain⟨c2,o2,x2,y2⟩:=sD'.ix (kd:=.i64) bQ (i:=A.s) (by omega)
 simp only [List.getElem_map,List.getElem_range,bO]at y1 y2
 have k5:=S.gr.load e5
 have z6:=(S.row (b:=b6) m0).lt S.ok
 have z5:=bH S.ok k5
 have zc:=bH S.ok y1
 simp only [BS,LB,Nat.reduceLT,Nat.reduceEqDiff]
 refine ay (aF rfl) (q:=0) (ps:=[]) (by kernel_rfl) ?_
 simp only [BS,LB,cls,Nat.reduceLT,Nat.reduceEqDiff,Nat.reduceAdd,Nat.reducePow,Nat.reduceDiv,Nat.reduceMod,Nat.reduceLeDiff,Tryz.FFfl5267,k5,x1,y1,S.ld (b:=b6) (o:=1) m0 rfl,S.ld (b:=b6) (o:=2) m0 rfl]
 refine cy (add_ok S.ok) ?_
 intro h7 g7
 have v6:=az g7 z6
 have v5:=az g7 z5
 have vc:=az g7 zc
 replace S:=S.call g7
 simp only [BS,LB,cls,Nat.reduceLT,Nat.reduceEqDiff,Nat.reduceAdd,Nat.reducePow,Nat.reduceDiv,Nat.reduceMod,Nat.reduceLeDiff]
 have far:=gY
 have b1:=ds.le
 have b2:=dt.le
 have hwy:wy (wy (wy (d A.t:Nat))+wy (A.w:Nat))=(if d A.t+A.w<FAR then((d A.t+A.w:Nat):Int)else(FAR:Int)):=by
  unfold wy
  repeat' split
  all_goals omega
 rw [hwy]
 have k5':=g7.load k5
 have y2':=g7.load y2
 by_cases hf:d A.t+A.w<FAR
 . rw [if_pos hf]
   have w1:wy ((d A.t+A.w:Nat):Int)<72057594037927936:=by unfold wy;omega
   have fc:decide (wy ((d A.t+A.w:Nat):Int)<72057594037927936)=true:=decide_eq_true w1
   refine ar (tX S.ok) ?_
   intro h8 g8;replace S:=S.call g8
   rw [fc]
   by_cases he:d A.s=A.w+d A.t
   . have he':((d A.t+A.w:Nat):Int)=(d A.s:Int):=by omega
     simp only [BS,LB,ae,Nat.reduceLT,Nat.reduceEqDiff,Tryz.FFfl5267,g8.load k5',x2,g8.load y2',he',S.ld (b:=b6) (o:=0) m0 rfl]
     exact⟨by rw [decide_eq_true ⟨by omega,by omega,he⟩],S.gr⟩
   . have he': ¬((d A.t+A.w:Nat):Int)=(d A.s:Int):=by omega
     simp only [BS,LB,ae,Nat.reduceLT,Nat.reduceEqDiff,Tryz.FFfl5267,g8.load k5',x2,g8.load y2',he',S.ld (b:=b6) (o:=0) m0 rfl]
     exact⟨by rw [decide_eq_false (fun h=>he h.2.2)],S.gr⟩
 . rw [if_neg hf]
   have fc:decide (wy (FAR:Int)<72057594037927936)=false:=decide_eq_false (by unfold wy;omega)
   refine ar (tX S.ok) ?_
   intro h8 g8;replace S:=S.call g8
   rw [fc]
   simp only [BS,LB,ae,Nat.reduceLT,Nat.reduceEqDiff]
   exact⟨by rw [decide_eq_false (fun h=>by omega)],S.gr⟩
theorem tells_ok{h0 hn0:Hp}(okn:hn0.t.Sized hn0.n)(ok:h0.t.Sized h0.n)(gn:Gr hn0 h0){x:Nat}(hx:hn0.n<=x)(hx2:x<h0.n){γ:Gra}(hγ:Good γ){nb bp b:Nat}(hn:bz hn0 nb (ptrTo bp) γ)(hb:b<γ.nodes):
 Ret yt 250 [ptrTo bp,.int .i64 (b:Nat)] h0 fun r h'=>Gr h0 h'/\ ∃b2 b5,r=.func (.func 267) #[] #[ptrTo b2,ptrTo b5]/\h0.n<=b2/\h0.n<=b5/\HoldA yt h' x 267 [ptrTo b2,ptrTo b5] γ.arcs.length (dW γ b):=by
 have S:=Si ok
 refine ac (n:=10) (rs:=[.tmp 4]) rfl Tryz.e250 rfl rfl rfl (lbt rfl) ?_
 simp only [BS,Nat.reduceLT]
 refine ag (bE (by intro x e;cases e)) S ?_;clear S;intro h b2 S n_b2;simp only [ah]at S
 simp only [BS,LB,Nat.reduceLT,Nat.reduceEqDiff,Tryz.FFfl5250,S.ld (b:=b2) (o:=0) m0 rfl]
 refine step_ret (rt S.ok hγ (hn.gr (gn.trans S.gr)) hb) ?_
 rintro r h1 ⟨g1,vD,vA,vO,D,aL,O,rfl,sD,sA,sO,_,hD,nD,_⟩
 have kb:=S.fr.n
 replace S:=S.call g1
 have y1:=sD.fl
 have y2:=sA.fl
 have y3:=sO.fl
 have eD:D=dOf (seen γ.arcs Arc.t Arc.s) b:=funext fun v=>((dOf_is (hD v)).1).symm
 have hD': ∀v,IsD (seen γ.arcs Arc.t Arc.s) b v (dOf (seen γ.arcs Arc.t Arc.s) b v):=fun v=>by rw [<-eD];exact hD v
 rw [eD]at sD
 simp only [BS,Tryz.FFfl5250]
 have R2:=S.row (b:=b2) m0
 have k2:=S.fr.n
 have g01:=S.gr
 have ok1:=S.ok
 clear S
 have S:=Si ok1
 refine ag aw S ?_;clear S;intro h b5 S n_b5
 simp only [BS,LB,Nat.reduceLT,Nat.reduceEqDiff]
 refine aA (S.store (i:=0) rfl zz (by intro x e;cases e) rfl (by simp only [ah,zE,zJ,y1.2.1,y2.2.1,y3.2.1,yF]) (lbt rfl) ono) ?_
 clear S;rintro h3 ⟨S,_⟩
 simp only [LC,ah,lay,yD,yE,Nat.reduceAdd]at S
 simp only [BS,LB,ae,Nat.reduceLT,Nat.reduceEqDiff]
 refine⟨g01.trans S.gr,b2,b5,rfl,n_b2,by omega,?_⟩
 have gA:=gn.trans (g01.trans S.gr)
 exact tells1_ok okn S.ok gA.keep gA.n hx hγ hn (by omega) (by omega) hD' (vA:=vA) (vO:=vO) ((R2.gr S.gr).load1 (o:=0) rfl) (S.ld (b:=b5) (o:=0) m0 rfl) (sD.gr S.gr) (fun c hc e=>by have:=nD c (.inl hc);omega)
open Tryz in
def Tryz.FFfl6266:=aj a1<|aj s1<|aj z1<|aj n1<|aj u2<|aj a2<|aj s2<|aj z2<|aj i2<|aj u3<|aj a3<|aj s3<|aj z3<|aj i3<|aj u4<|aj a4<|aj s4<|aj z4<|aj n4<|aj a124<|aj s124<|aj z124<|n124
open Tryz in
def Tryz.FFfl6248:=aj a1<|aj s1<|aj z1<|aj n1<|aj u2<|aj a2<|aj s2<|aj z2<|aj i2<|aj u3<|aj a3<|aj s3<|aj z3<|aj i3<|aj u4<|aj a4<|aj s4<|aj z4<|aj n4<|aj u9<|aj a9<|aj s9<|aj z9<|aj n9<|aj u43<|aj a43<|aj s43<|aj z43<|aj q43<|aj n43<|aj a110<|aj s110<|aj z110<|n110
open Tryz in
def Tryz.FFfl6202:=aj a1<|aj s1<|aj z1<|aj n1<|aj u2<|aj a2<|aj s2<|aj z2<|aj i2<|aj u3<|aj a3<|aj s3<|aj z3<|aj i3<|aj u4<|aj a4<|aj s4<|aj z4<|aj n4<|aj u5<|aj a5<|aj s5<|aj z5<|aj i5<|aj u6<|aj a6<|aj s6<|aj z6<|aj i6<|aj a7<|aj s7<|aj z7<|aj i7<|aj n7<|aj p7<|aj ff7<|aj d7<|aj a8<|aj s8<|aj z8<|aj i8<|aj n8<|aj p8<|aj ff8<|aj d8<|aj u9<|aj a9<|aj s9<|aj z9<|aj n9<|aj u10<|aj a10<|aj s10<|aj z10<|aj n10<|aj a28<|aj s28<|aj z28<|aj i28<|aj n28<|aj p28<|aj ff28<|aj d28<|aj u29<|aj a29<|aj s29<|aj z29<|aj q29<|aj i29<|aj n29<|aj u38<|aj a38<|aj s38<|aj z38<|aj q38<|aj n38<|aj u43<|aj a43<|aj s43<|aj z43<|aj q43<|aj n43<|aj a110<|aj s110<|aj z110<|aj n110<|aj a124<|aj s124<|aj z124<|aj n124<|aj u190<|aj a190<|aj s190<|aj z190<|aj q190<|aj n190<|aj a192<|aj s192<|aj z192<|aj i192<|aj n192<|aj p192<|aj ff192<|d192
theorem marked_ok{h0:Hp}(ok:h0.t.Sized h0.n){n:Nat}{ve:Value}(f2:Fl ve):Ret yt 249 [.int .i64 (n:Nat),ve] h0 fun v h'=>Gr h0 h'/\ ∃b1 b2,v=.func (.func 266) #[] #[ptrTo b1,ptrTo b2]/\h0.n<=b1/\h0.n<=b2/\h'.load b1 0 1=some [.int .i64 (n:Nat)]/\h'.load b2 0 1=some [ve]:=by
 have S:=Si ok
 refine ac (n:=6) (rs:=[.tmp 4]) rfl Tryz.e249 rfl rfl rfl (lbt rfl) ?_
 simp only [BS,Nat.reduceLT]
 refine ag (cC (by exact bu)) S ?_;clear S;intro h b1 S n_b1
 simp only [BS,Nat.reduceLT,Nat.reduceEqDiff,if_false]
 refine ag (cC (by assumption)) S ?_;clear S;intro h b2 S n_b2
 simp only [BS,LB,ae,Nat.reduceLT,Nat.reduceEqDiff]
 exact⟨S.gr,b1,b2,rfl,n_b1,n_b2,S.ld m1 rfl,S.ld m0 rfl⟩
theorem marked_it {hq h0:Hp} (okq:hq.t.Sized hq.n) (ok0:h0.t.Sized h0.n) (kq:eo hq h0) (nq:hq.n<=h0.n) {x:Nat} {N:Nat} (hN:N<=1000) {b1 b2:Nat} {g:FuncId} {post:Array Value} {f:Nat->Bool} (hf:HoldA yt hq x g post.toList N f)
 (e1:h0.load b1 0 1=some [.int .i64 (N:Nat)]) (e2:h0.load b2 0 1=some [.func (.func g) #[] post]):
 ng yt 266 [] [ptrTo b1,ptrTo b2] h0 (fun c=>c=b1\/c=b2\/(c<hq.n/\c≠x)) (((yr N).filter f).map fun(v:Nat)=>[.int .i64 (v:Nat)]):=by
 intro lb J Z hz Y h F s hj
 have l1:=s.load ok0 e1 (.inl rfl)
 refine enter (n:=19) (rs:=[]) rfl Tryz.e266 rfl rfl rfl (lbt rfl) ?_
 simp only [BS,LB,Nat.reduceLT,Tryz.FFfl6266,l1]
 refine aJ (fun(i:Nat) ρ h=>i<=N/\ ∃F,ItS h0 (fun c=>c=b1\/c=b2\/(c<hq.n/\c≠x)) h F/\J ((yr i).filter f).length h F/\ρ 0=.func (.yield lb) #[] #[]/\ρ 1=ptrTo b1/\ρ 2=ptrTo b2/\ρ 5=.int .i64 (N:Nat)/\ρ 6=.int .i64 i) (fun i=>N-i) ?_ 0 _ _ ?_
 . clear l1 s hj F h
   intro i ih ρ h ⟨hi,F,s,hj,r0,r1,r2,r5,r6⟩
   have w:aq .i64 ((i:Int)+1)=((i+1:Nat):Int):=by rw [wrap64]<;>omega
   by_cases hlt:i<N
   . have l2:=s.load ok0 e2 (.inr (.inl rfl))
     simp only [BS,LB,Nat.reduceLT,Nat.reduceEqDiff,Tryz.FFfl6266,r2,r5,r6,ax,hlt,l2]
     refine ar (hf _ s.ok (fun c hc hx=>(s.data c (yw hc nq) (.inr (.inr ⟨hc,hx⟩))).trans (kq c hc)) (yx nq s.n) i hlt) ?_
     intro h2 g2
     cases hb:f i with
     | true=>
       have hx:(((yr N).filter f).map fun(v:Nat)=>[Value.int .i64 (v:Nat)])[((yr i).filter f).length]? =some [.int .i64 (i:Nat)]:=by
        rw [yA,pj hb _ hlt];rfl
       have ln:((yr (i+1)).filter f).length=((yr i).filter f).length+1:=by rw [eB,if_pos hb];simp
       simp only [BS,LB,Nat.reduceLT,Nat.reduceEqDiff,r0]
       refine dw Y (s.gr g2) (Y.gr _ _ _ _ hj g2) (i:=((yr i).filter f).length) hx ?_ ?_ ?_
       . intro h3 F3 a s3 _ _
         simp only [BS,LB,Nat.reduceLT,Nat.reduceEqDiff,r6,w]
         exact ih (i+1) _ _ (by omega) ⟨by omega,F3,s3,by rw [ln];exact a,by simp [aa,r0],by simp [aa,r1,ab],by simp [aa,r2,ab],by simp [aa,r5],by simp [aa]⟩
       . intro h3 a _
         simp only [BS,LB,Nat.reduceLT,Nat.reduceEqDiff]
         exact eS rfl ⟨rfl,.inr (.inl ⟨_,rfl,a⟩)⟩
       . intro v h3 a
         exact absurd a (hz v h3)
     | false=>
       have ln:(yr (i+1)).filter f=(yr i).filter f:=by rw [eB,if_neg (by rw [hb];decide)];simp
       simp only [BS,LB,Nat.reduceLT,Nat.reduceEqDiff,r6,w]
       exact ih (i+1) _ _ (by omega) ⟨by omega,F,s.gr g2,by rw [ln];exact Y.gr _ _ _ _ hj g2,by simp [aa,r0],by simp [aa,r1,ab],by simp [aa,r2,ab],by simp [aa,r5],by simp [aa]⟩
   . simp only [BS,LB,Nat.reduceLT,r5,r6,ax,hlt]
     have:i=N:=by omega
     subst this
     exact cR (dh ⟨rfl,_,rfl,rfl,.inl ⟨_,F,rfl,by simpa using hj⟩⟩)
 . exact⟨yH _,F,s,hj,by simp [aa,cf],by simp [aa,cf,ab],by simp [aa,cf,ab],by simp [aa],by simp [aa]⟩
def df(n:Nat)(f:Nat->Bool):List Value:=(yr n).map fun j=>.bool (f j)
theorem oa{n:Nat}{f:Nat->Bool}:(df n f).length=n:=by simp [df]
theorem bolC_at{n j:Nat}{f:Nat->Bool}(h:j<n):(df n f)[j]? =some (.bool (f j)):=gT (F:=fun j=>Value.bool (f j)) h
theorem vV{n j:Nat}{f:Nat->Bool}:(df n f).set j (.bool true)=df n (fun u=>decide (u=j)||f u):=by
 have:=gC (N:=n) (k:=j) (F:=fun j=>Value.bool (f j)) (F':=fun u=>Value.bool (decide (u=j)||f u)) (fun i _ hi=>by simp [hi])
 unfold df
 rw [<-this];simp
theorem je{n:Nat}{f g:Nat->Bool}(h: ∀j,j<n->f j=g j):df n f=df n g:=by
 unfold df
 refine List.map_congr_left fun j hj=>?_
 rw [h j (List.mem_range.1 hj)]
theorem putB_ok{h0:Hp}(ok:h0.t.Sized h0.n){bl n:Nat}{f0:Nat->Bool}(R:Row h0 bl (df n f0) 1){g:FuncId}{post:Array Value}{D:Nat->Prop}{xs:List Nat}(it:ng yt g [] post.toList h0 D (xs.map fun(v:Nat)=>[.int .i64 (v:Nat)]))(hD: ¬D bl)(hxs: ∀x∈xs,x<n)(hl:xs.length<=1000):
 Ret yt 248 [.slice (some ⟨bl,0,none⟩) n n,.func (.func g) #[] post,.bool true] h0 fun r h'=>Mo (· =bl) h0 h'/\r=.slice (some ⟨bl,0,none⟩) n n/\Row h' bl (df n (fun u=>decide (u∈xs)||f0 u)) 1:=by
 have S:=St.init1 ok (o:=.row (df n f0) 1) R
 have zl:=R.lt ok
 refine ac (n:=15) (rs:=[.tmp 6]) rfl Tryz.e248 rfl rfl rfl (lbt rfl) ?_
 simp only [BS,Nat.reduceLT]
 refine ag (cC (by exact cg)) S ?_;clear S;intro h b3 S n_b3
 simp only [BS,Nat.reduceLT,Nat.reduceEqDiff,if_false]
 refine ag (cC (by exact mr)) S ?_;clear S;intro h b5 S n_b5
 simp only [BS,Nat.reduceLT,Nat.reduceEqDiff,if_false]
 have e0:df n f0=df n (fun u=>decide (u∈xs.take 0)||f0 u):=je fun j _=>by simp
 refine g9 S (g:=g) (a:=#[]) (b:=post) (by simp [bS,aa,ab]) rfl rfl ?_
 intro h2 db lb S' hdb hlb g2
 obtain⟨X,hX,S'⟩: ∃X:eX,X=_/\St (· =bl) h0 h2 [(lb,.loop X),(db,.dfr),(b5,.row [.bool true] 1),(b3,.row [.slice (some ⟨bl,0,none⟩) n n] 1),(bl,.row (df n f0) 1)] []:=⟨_,rfl,S'⟩
 have hJ:Yld yt lb (fun k h' F=>St (· =bl) h0 h' [(lb,.loop X),(db,.dfr),(b5,.row [.bool true] 1),(b3,.row [.slice (some ⟨bl,0,none⟩) n n] 1),(bl,.row (df n (fun u=>decide (u∈xs.take k)||f0 u)) 1)] []/\k<=xs.length/\F=[lb,db,b5,b3,bl]) (fun _ _=>False) (xs.map fun(v:Nat)=>[.int .i64 (v:Nat)]):=by
  refine⟨?_,?_,fun _ _ h=>h.elim,?_⟩
  . rintro i h F ⟨S,_,rfl⟩;exact⟨S.ok,fun b hb=>S.key_lt (by simpa [keys]using hb)⟩
  . rintro i h F h' ⟨S,a,rfl⟩ gg;exact⟨S.call gg,a,rfl⟩
  . rintro i x hR F hx ⟨S,a,rfl⟩
    have hil:i<xs.length:=by
     have:=(List.getElem?_eq_some_iff.1 hx).1
     simpa using this
    rw [yA,yv hil]at hx
    cases hx
    have hxn:=hxs _ (yy hil)
    have tk:df n (fun u=>decide (u∈xs.take (i+1))||f0 u)=(df n (fun u=>decide (u∈xs.take i)||f0 u)).set xs[i] (.bool true):=by
     rw [vV]
     refine je fun j _=>?_
     rw [yB hil]
     simp only [yZ,zh]
     by_cases e1:j=xs[i]<;>by_cases e2:j∈xs.take i<;>simp [e1,e2]
    rw [tk]
    generalize xs[i]=x at hxn
    subst hX
    refine hQ (S.get m0) (by rw [Tryz.e248];rfl) rfl ?_
    have S0:=S
    replace S:=S.base
    simp only [BS,LB,Nat.reduceLT,Nat.reduceEqDiff]
    refine gw S (i:=0) rfl rfl rfl rfl rfl ?_
    clear S;intro h S
    simp only [LC]at S
    simp only [BS,LB,Nat.reduceLT,Nat.reduceEqDiff,Tryz.FFfl6248,hxn,S.ld (b:=b3) (o:=0) m3 rfl,S.ld (b:=b5) (o:=0) m2 rfl]
    refine aA (aB S (i:=4) rfl Tryz.s4 mr (by rw [oa];exact hxn) ono) ?_
    clear S;rintro h ⟨S,_⟩
    simp only [LC]at S
    simp only [BS]
    refine d6 S (i:=0) rfl ?_
    clear S;intro h S
    simp only [LC]at S
    refine .inl ⟨rfl,_,⟨S0.rebase S,by omega,rfl⟩,?_,fun c hc=>.inl hc⟩
    have:=S.fr
    simp only [keys,zj,zI,za,zx]at this
    exact this
 refine fu (it lb _ _ (fun _ _ h=>h) hJ h2 [lb,db,b5,b3,bl] ?_ ⟨by rw [<-e0];exact S',yH _,rfl⟩) fun o rc h' y=>hU y ?_
 . have kn:=S.fr.n
   refine⟨S'.ok,S'.fr.n,fun b hb hd=>S'.fr.get b hb (fun e=>hD (e▸hd)),fun b hb h=>?_,fun b hb=>S'.key_lt (by simpa [keys]using hb)⟩
   simp only [yW,yO,or_false]at hb
   rcases hb with rfl|rfl|rfl|rfl|rfl
   . omega
   . omega
   . omega
   . omega
   . exact hD h.2
 . rintro F ⟨T,_,rfl⟩
   rw [yI,yP]at T
   subst hX
   refine⟨_,T.get m0,yY,?_⟩
   replace T:=T.dead
   have S:=T
   show Run _ _ _ _ _ _ _ _
   simp only [BS,LB,Nat.reduceLT,Nat.reduceEqDiff,Tryz.FFfl6248,S.ld (b:=b3) (o:=0) m2 rfl]
   refine eP (iw [db] _ (L:=[(b5,_),(b3,_),(bl,_)]) T.base fun h4 S4=>?_)
   refine⟨rfl,(gV (by decide)).2 (eV.2 ?_)⟩
   have U:=T.rebase S4
   exact⟨U.fr,rfl,U.row m2⟩
theorem anyT_ok {h0:Hp} (ok:h0.t.Sized h0.n) {γ:Gra} (hγ:Good γ) {nb bp b:Nat} {vL:Value} {xs:List Nat} (hn:bz h0 nb (ptrTo bp) γ) (hb:b<γ.nodes) (sL:aC h0 1 bO vL xs) (hxs:xs=[b]):
 Ret yt 202 [ptrTo bp,vL] h0 fun r h'=>Gr h0 h'/\ ∃bl,r=.slice (some ⟨bl,0,none⟩) γ.arcs.length γ.arcs.length/\Row h' bl (df γ.arcs.length (dW γ b)) 1/\h0.n<=bl:=by
 have S:=Si ok
 have many:=hγ.many
 have fL:=sL.fl
 have hl:xs.length=1:=by rw [hxs];rfl
 refine ac (n:=32) (rs:=[.tmp 4]) rfl Tryz.e202 rfl rfl rfl (lbt rfl) ?_
 simp only [BS,LB,Nat.reduceLT,Nat.reduceEqDiff,Tryz.FFfl6202]
 refine ar (jZ S.ok hn) ?_
 intro h1 g1;replace S:=S.call g1
 simp only [BS,LB,Nat.reduceLT,Nat.reduceEqDiff]
 have gA:=S.gr
 have okA:=S.ok
 clear S
 have S:=Si okA
 rename Hp=>hA
 refine ag (ja (by exact Tryz.u43) (by exact Tryz.e4E) (by omega) (by omega)) S ?_;clear S;intro h bl S n_bl
 have e0:aT [Value.bool false] γ.arcs.length=df γ.arcs.length (fun a=>decide (0=1)&&dW γ b a):=by
  rw [kU]
  unfold df
  simp [yX]
 rw [yC,e0]at S
 simp only [BS,LB,Nat.reduceLT,Nat.reduceEqDiff,Tryz.FFfl6202,yC,sL.lenq]
 refine aJ (fun(i:Nat) ρ h=>i<=1/\St NoM hA h [(bl,.row (df γ.arcs.length (fun a=>decide (i=1)&&dW γ b a)) 1)] []/\ρ 0=ptrTo bp/\ρ 5=.slice (some ⟨bl,0,none⟩) γ.arcs.length γ.arcs.length/\ρ 13=vL/\ρ 14=.int .i64 (xs.length:Nat)/\ρ 15=.int .i64 i) (fun i=>1-i) ?_ 0 _ _ ?_
 . clear S
   intro i ih ρ h ⟨hi,S,r0,r5,r13,r14,r15⟩
   have w:aq .i64 ((i:Int)+1)=((i+1:Nat):Int):=by rw [wrap64]<;>omega
   have gI:=gA.trans S.gr
   by_cases hlt:i<xs.length
   . have i0:i=0:=by omega
     obtain⟨c,o,x0,y0⟩:=(sL.gr gI).ix (kd:=.i64) bQ hlt
     have eb:xs[i]=b:=by subst hxs;subst i0;rfl
     rw [eb]at y0
     replace y0:h.load c o 1=some [.int .i64 (b:Nat)]:=y0
     simp only [BS,LB,Nat.reduceLT,Nat.reduceEqDiff,Tryz.FFfl6202,r0,r13,r14,r15,ax,hlt,x0,y0]
     refine ar (yb S.ok (hn.gr gI) hb) ?_
     intro h2 g2;replace S:=S.call g2
     have hS:=S.gr
     have klt:=(S.row (b:=bl) m0).lt S.ok
     simp only [BS,LB,Nat.reduceLT,Nat.reduceEqDiff,Tryz.FFfl6202,r0,r5]
     refine step_ret (tells_ok okA S.ok S.gr (x:=bl) n_bl klt hγ (hn.gr gA) hb) ?_
     rintro v h3 ⟨g3,b2,b5,rfl,n2,n5,hf⟩
     replace S:=S.call g3
     have okT:=S.ok
     simp only [BS,LB,Nat.reduceLT,Nat.reduceEqDiff]
     refine step_ret (marked_ok S.ok (n:=γ.arcs.length) jj) ?_
     rintro v h4 ⟨g4,b1,b3,rfl,n1,n3,y1,y3⟩
     have it:=marked_it okT g4.ok g4.keep g4.n (x:=bl) (by omega) (g:=267) (post:=#[ptrTo b2,ptrTo b5]) hf y1 y3
     have kg:=g3.n
     replace S:=S.call g4
     simp only [BS,LB,Nat.reduceLT,Nat.reduceEqDiff]
     refine step_ret (putB_ok S.ok (S.row (b:=bl) m0) (g:=266) (post:=#[ptrTo b1,ptrTo b3]) it (fun h=>?_) (fun x hx=>List.mem_range.1 (List.mem_filter.1 hx).1) (yx iH (by omega))) ?_
     . rcases h with h|h|h
       . omega
       . omega
       . exact h.2 rfl
     . rintro v h5 ⟨f5,rfl,R5⟩
       have S5:=S.call1 (i:=0) (o':=.row _ 1) rfl f5 R5
       simp only [yT]at S5
       simp only [BS,LB,Nat.reduceLT,Nat.reduceEqDiff,r15,w]
       refine ih (i+1) _ _ (by omega) ⟨by omega,?_,by simp [aa,r0,ab],by simp [aa],by simp [aa,r13],by simp [aa,r14],by simp [aa]⟩
       have e:df γ.arcs.length (fun a=>decide (i+1=1)&&dW γ b a)=df γ.arcs.length (fun u=>decide (u∈(yr γ.arcs.length).filter (dW γ b))||(decide (i=1)&&dW γ b u)):=je fun j hj=>by
        subst i0
        simp [List.mem_filter,hj]
       rw [e]
       exact S5
   . have i1:i=1:=by omega
     simp only [BS,LB,ae,Nat.reduceLT,Nat.reduceEqDiff,r5,r14,r15,ax,hlt]
     refine⟨gI,bl,rfl,?_,by have:=gA.n;omega⟩
     have e:df γ.arcs.length (dW γ b)=df γ.arcs.length (fun a=>decide (i=1)&&dW γ b a):=je fun j _=>by rw [decide_eq_true i1,Bool.true_and]
     rw [e]
     exact S.row m0
 . exact⟨yH _,S,by simp [aa,cf,ab],by simp [aa],by simp [aa],by simp [aa],by simp [aa]⟩
theorem arcsT_ok{h0:Hp}(ok:h0.t.Sized h0.n){γ:Gra}(hγ:Good γ){nb bp b:Nat}(hn:bz h0 nb (ptrTo bp) γ)(hb:b<γ.nodes):
 Ret yt 122 [ptrTo bp,.int .i64 (b:Nat)] h0 fun r h'=>Gr h0 h'/\ ∃bl,r=.slice (some ⟨bl,0,none⟩) γ.arcs.length γ.arcs.length/\Row h' bl (df γ.arcs.length (dW γ b)) 1/\h0.n<=bl:=by
 have S:=Si ok
 refine ac (n:=9) (rs:=[.tmp 4]) rfl Tryz.e122 rfl rfl rfl (lbt rfl) ?_
 simp only [BS,LB,Nat.reduceLT,Nat.reduceEqDiff]
 refine ag (bN (by exact zo) (by exact zq) (by decide) (by rfl)) S ?_;clear S;intro h bs S n_bs;simp only [LC,aT,bD,ah,Nat.reduceMul,Nat.reduceAdd,yS,yM,yU,yV]at S
 simp only [BS,LB,Nat.reduceLT,Nat.reduceEqDiff]
 have sl:aC h 1 bO (.slice (some ⟨bs,0,none⟩) 1 1) [b]:=.inr ⟨bs,0,none,1,rfl,yJ _,S.lds (b:=bs) (o:=0) (n:=1*1) m0 (lbt rfl)⟩
 have k0:=S.fr.n
 refine step_ret (anyT_ok S.ok hγ (hn.gr S.gr) hb sl rfl) ?_
 rintro r h2 ⟨g2,bl,rfl,R,nl⟩
 replace S:=S.call g2
 simp only [BS,LB,ae,Nat.reduceLT,Nat.reduceEqDiff]
 exact⟨S.gr,bl,rfl,R,by omega⟩
end Go.Ab
end
section
namespace Go.Ab
open Go.Proofs
set_option maxRecDepth 10000
open Tryz in
def Tryz.FFfl7118:=aj a1<|aj s1<|aj z1<|aj n1<|aj u2<|aj a2<|aj s2<|aj z2<|aj i2<|aj u3<|aj a3<|aj s3<|aj z3<|aj i3<|aj u4<|aj a4<|aj s4<|aj z4<|aj n4<|aj u5<|aj a5<|aj s5<|aj z5<|aj i5<|aj u6<|aj a6<|aj s6<|aj z6<|aj i6<|aj a7<|aj s7<|aj z7<|aj i7<|aj n7<|aj p7<|aj ff7<|aj d7<|aj a28<|aj s28<|aj z28<|aj i28<|aj n28<|aj p28<|aj ff28<|aj d28<|aj u29<|aj a29<|aj s29<|aj z29<|aj q29<|aj i29<|aj n29<|aj a124<|aj s124<|aj z124<|aj n124<|aj u190<|aj a190<|aj s190<|aj z190<|aj q190<|aj n190<|aj a192<|aj s192<|aj z192<|aj i192<|aj n192<|aj p192<|aj ff192<|d192
open Tryz in
def Tryz.FFfl7119:=aj a1<|aj s1<|aj z1<|aj n1<|aj u3<|aj a3<|aj s3<|aj z3<|aj i3<|aj u4<|aj a4<|aj s4<|aj z4<|aj n4<|aj a28<|aj s28<|aj z28<|aj i28<|aj n28<|aj p28<|aj ff28<|aj d28<|aj u29<|aj a29<|aj s29<|aj z29<|aj q29<|aj i29<|aj n29<|aj u30<|aj a30<|aj s30<|aj z30<|aj q30<|aj i30<|aj n30<|aj u38<|aj a38<|aj s38<|aj z38<|aj q38<|aj n38<|aj a117<|aj s117<|aj z117<|aj i117<|aj n117<|aj p117<|aj ff117<|aj d117<|aj u190<|aj a190<|aj s190<|aj z190<|aj q190<|aj n190<|aj a192<|aj s192<|aj z192<|aj i192<|aj n192<|aj p192<|aj ff192<|d192
open Tryz in
def Tryz.FFfl7123:=aj a1<|aj s1<|aj z1<|aj n1<|aj u3<|aj a3<|aj s3<|aj z3<|aj i3<|aj u4<|aj a4<|aj s4<|aj z4<|aj n4<|aj u43<|aj a43<|aj s43<|aj z43<|aj q43<|n43
open Tryz in
def Tryz.FFfl7117:=aj a1<|aj s1<|aj z1<|aj n1<|aj u2<|aj a2<|aj s2<|aj z2<|aj i2<|aj u3<|aj a3<|aj s3<|aj z3<|aj i3<|aj u4<|aj a4<|aj s4<|aj z4<|aj n4<|aj u5<|aj a5<|aj s5<|aj z5<|aj i5<|aj u6<|aj a6<|aj s6<|aj z6<|aj i6<|aj a7<|aj s7<|aj z7<|aj i7<|aj n7<|aj p7<|aj ff7<|aj d7<|aj a8<|aj s8<|aj z8<|aj i8<|aj n8<|aj p8<|aj ff8<|aj d8<|aj a28<|aj s28<|aj z28<|aj i28<|aj n28<|aj p28<|aj ff28<|aj d28<|aj u29<|aj a29<|aj s29<|aj z29<|aj q29<|aj i29<|aj n29<|aj u30<|aj a30<|aj s30<|aj z30<|aj q30<|aj i30<|aj n30<|aj u38<|aj a38<|aj s38<|aj z38<|aj q38<|aj n38<|aj u43<|aj a43<|aj s43<|aj z43<|aj q43<|aj n43<|aj a117<|aj s117<|aj z117<|aj i117<|aj n117<|aj p117<|aj ff117<|aj d117<|aj a124<|aj s124<|aj z124<|aj n124<|aj u190<|aj a190<|aj s190<|aj z190<|aj q190<|aj n190<|aj a192<|aj s192<|aj z192<|aj i192<|aj n192<|aj p192<|aj ff192<|aj d192<|aj a193<|aj s193<|aj z193<|n193
def Own(B:Nat->Prop)(hB h:Hp)(F:List Nat):Prop:=hB.n<=h.n/\ ∀b,B b->b<hB.n/\b∉F/\h.get b=hB.get b
theorem Own.gr{B:Nat->Prop}{hB h h':Hp}{F:List Nat}(o:Own B hB h F)(g:Gr h h'):Own B hB h' F:=
 ⟨yx o.1 g.n,fun b hb=>⟨(o.2 b hb).1,(o.2 b hb).2.1,(g.get b (yw (o.2 b hb).1 o.1)).trans (o.2 b hb).2.2⟩⟩
theorem Own.mo{B:Nat->Prop}{hB h h':Hp}{F F':List Nat}(o:Own B hB h F)(m:Mo (· ∈F) h h')(hF: ∀b∈F',b∈F\/h.n<=b):Own B hB h' F':=
 ⟨yx o.1 m.n,fun b hb=>by
  obtain⟨h1,h2,h3⟩:=o.2 b hb
  have hlt:=yw h1 o.1
  exact⟨h1,fun hm=>(hF b hm).elim h2 (fun h=>by omega),(m.get b hlt h2).trans h3⟩⟩
section
variable{γ:Gra}{nb mb bp k:Nat}{p:Value}{m:List Int}{c:Nat->Nat}
theorem won_ok{h0 hB:Hp}{D:Nat->Prop}(ok0:h0.t.Sized h0.n){lb:Nat}{J:Nat->Hp->List Nat->Prop}{Z:Out->Hp->Prop}{xs:List (List Value)}(hγ:Good γ)(hz: ∀v h,¬Z (.pan v) h)(Y:Yld yt lb J Z xs){B:Nat->Prop}{by' b3:Nat}(hby:B by')(ly:hB.load by' 0 1=some [.func (.yield lb) #[] #[]])(D3:D b3)(e3:h0.load b3 0 1=some [ptrTo bp])(hnet: ∀h F,ItS h0 D h F->bz h nb (ptrTo bp) γ)
 {g:FuncId} {post:Array Value} {f:Nat->Bool} (His: ∀h F,ItS h0 D h F->Own B hB h F-> ∀a,a<γ.arcs.length->bF yt g ([.int .i64 (a:Nat)]++post.toList) h (.bool (f a))) {i0:Nat} (hx: ∀a,a<γ.arcs.length->f a=true->xs[i0+((yr a).filter f).length]? =some [.int .i64 (a:Nat)]) {h:Hp} {F:List Nat} (s:ItS h0 D h F) (o:Own B hB h F) (hj:J i0 h F):
 Ret yt 118 [.func (.func g) #[] post,ptrTo b3,ptrTo by'] h fun v h'=>(v=.bool true/\ ∃F',ItS h0 D h' F'/\Own B hB h' F'/\J (i0+((yr γ.arcs.length).filter f).length) h' F')\/(v=.bool false/\Z (.ret (.bool false)) h'):=by
 have many:=hγ.many
 have l3:=s.load ok0 e3 D3
 refine ac (n:=21) (rs:=[.tmp 4]) rfl Tryz.e118 rfl rfl rfl (lbt rfl) ?_
 simp only [BS,LB,Nat.reduceLT,Nat.reduceEqDiff,Tryz.FFfl7118,l3]
 refine ar (jZ s.ok (hnet _ _ s)) ?_
 intro h1 g1
 simp only [BS]
 refine aJ (fun(i:Nat) ρ h=>i<=γ.arcs.length/\ ∃F,ItS h0 D h F/\Own B hB h F/\J (i0+((yr i).filter f).length) h F/\ρ 0=.func (.func g) #[] post/\ρ 2=ptrTo by'/\ρ 7=.int .i64 (γ.arcs.length:Nat)/\ρ 8=.int .i64 i) (fun i=>γ.arcs.length-i) ?_ 0 _ _ ?_
 . intro i ih ρ h ⟨hi,F,s,o,hj,r0,r2,r7,r8⟩
   have w:aq .i64 ((i:Int)+1)=((i+1:Nat):Int):=by rw [wrap64]<;>omega
   by_cases hlt:i<γ.arcs.length
   . simp only [BS,LB,Nat.reduceLT,Nat.reduceEqDiff,r0,r7,r8,ax,hlt]
     refine ar (His _ _ s o i hlt) ?_
     intro h2 g2
     have ly':=jF ly ((o.gr g2).2 by' hby).2.2
     cases hb:f i with
     | true=>
       have ln:((yr (i+1)).filter f).length=((yr i).filter f).length+1:=by rw [eB,if_pos hb];simp
       simp only [BS,LB,Nat.reduceLT,Nat.reduceEqDiff,Tryz.FFfl7118,r2,ly']
       refine dw Y (s.gr g2) (Y.gr _ _ _ _ hj g2) (i:=i0+((yr i).filter f).length) (hx i hlt hb) ?_ ?_ ?_
       . intro h3 F3 a s3 m3 hF3
         simp only [BS,LB,Nat.reduceLT,Nat.reduceEqDiff,r8,w]
         exact ih (i+1) _ _ (by omega) ⟨by omega,F3,s3,(o.gr g2).mo m3 hF3,by rw [ln];exact a,by simp [aa,r0],by simp [aa,r2,ab],by simp [aa,r7],by simp [aa]⟩
       . intro h3 a _
         simp only [BS,LB,ae,Nat.reduceLT,Nat.reduceEqDiff]
         exact .inr a
       . intro v h3 a
         exact absurd a (hz v h3)
     | false=>
       have ln:(yr (i+1)).filter f=(yr i).filter f:=by rw [eB,if_neg (by rw [hb];decide)];simp
       simp only [BS,LB,Nat.reduceLT,Nat.reduceEqDiff,r8,w]
       exact ih (i+1) _ _ (by omega) ⟨by omega,F,s.gr g2,o.gr g2,by rw [ln];exact Y.gr _ _ _ _ hj g2,by simp [aa,r0],by simp [aa,r2,ab],by simp [aa,r7],by simp [aa]⟩
   . have:i=γ.arcs.length:=by omega
     subst this
     simp only [BS,LB,ae,Nat.reduceLT,Nat.reduceEqDiff,r7,r8,ax,hlt]
     exact .inl ⟨F,s,o,hj⟩
 . exact⟨yH _,F,s.gr g1,o.gr g1,Y.gr _ _ _ _ hj g1,by simp [aa,cf],by simp [aa,cf,ab],by simp [aa],by simp [aa]⟩
theorem worth_ok{h0:Hp}(ok:h0.t.Sized h0.n)(fp:Fl p):Ret yt 57 [ptrTo bp,p,.int .i64 (k:Nat)] h0 fun v h'=>Gr h0 h'/\ ∃b3 b4 b5,v=.func (.func 117) #[] #[ptrTo b3,ptrTo b4,ptrTo b5]/\h0.n<=b3/\h0.n<=b4/\h0.n<=b5/\h'.load b3 0 1=some [ptrTo bp]/\h'.load b4 0 1=some [p]/\h'.load b5 0 1=some [.int .i64 (k:Nat)]:=by
 have S:=Si ok
 refine ac (n:=8) (rs:=[.tmp 6]) rfl Tryz.e57 rfl rfl rfl (lbt rfl) ?_
 simp only [BS,Nat.reduceLT]
 refine ag (cC (by exact dZ)) S ?_;clear S;intro h b3 S n_b3
 simp only [BS,Nat.reduceLT,Nat.reduceEqDiff,if_false]
 refine ag (cC (by assumption)) S ?_;clear S;intro h b4 S n_b4
 simp only [BS,Nat.reduceLT,Nat.reduceEqDiff,if_false]
 refine ag (cC (by exact bu)) S ?_;clear S;intro h b5 S n_b5
 simp only [BS,LB,ae,Nat.reduceLT,Nat.reduceEqDiff]
 exact⟨S.gr,b3,b4,b5,rfl,n_b3,n_b4,n_b5,S.ld m2 rfl,S.ld m1 rfl,S.ld m0 rfl⟩
def jX(γ:Gra)(c:Nat->Nat)(k a:Nat):Bool:=decide (c (γ.arcs.getD a default).s=k/\c (γ.arcs.getD a default).t=k)
theorem worth2_ok{h:Hp}(ok:h.t.Sized h.n)(hγ:Good γ)(hn:bz h nb (ptrTo bp) γ)(x:fV h mb p γ.nodes m c){b3 b4 b5:Nat}(l3:h.load b3 0 1=some [ptrTo bp])(l4:h.load b4 0 1=some [p])(l5:h.load b5 0 1=some [.int .i64 (k:Nat)]){a:Nat}(ha:a<γ.arcs.length):
 bF yt 119 ([.int .i64 (a:Nat)]++[ptrTo b3,ptrTo b4,ptrTo b5]) h (.bool (jX γ c k a)):=by
 refine ac (n:=11) (rs:=[.tmp 5]) rfl Tryz.e119 rfl rfl rfl (lbt rfl) ?_
 simp only [BS,LB,Nat.reduceLT,Nat.reduceEqDiff,Tryz.FFfl7119,l3,l4,l5]
 refine ar (inside_ok (N:=0) ok hγ hn x ha) ?_
 intro h2 g2
 simp only [BS,LB,ae,Nat.reduceLT,Nat.reduceEqDiff]
 exact⟨rfl,g2⟩
theorem worth3_ok{h:Hp}(ok:h.t.Sized h.n){b8 bl n:Nat}{f:Nat->Bool}(l8:h.load b8 0 1=some [.slice (some ⟨bl,0,none⟩) n n])(R:Row h bl (df n f) 1){a:Nat}(ha:a<n):
 bF yt 123 ([.int .i64 (a:Nat)]++[ptrTo b8]) h (.bool (f a)):=by
 have S:=Si ok
 have lx:=R.load1 (bolC_at (f:=f) ha)
 have c0:(a:Int)<(n:Int):=by omega
 refine ac (n:=14) (rs:=[.tmp 3]) rfl Tryz.e123 rfl rfl rfl (lbt rfl) ?_
 simp only [BS,LB,ae,Nat.reduceLT,Nat.reduceEqDiff,Tryz.FFfl7123,l8,c0,ha,lx]
 exact S.gr
theorem flat_at{α β:Type}{f:α->List β}{l:List α}{j q:Nat}{x:β}(hj:j<l.length)(h:(f l[j])[q]? =some x):(l.flatMap f)[((l.take j).flatMap f).length+q]? =some x:=by
 have e:l=l.take j++l[j]::l.drop (j+1):=by rw [<-zn hj,List.take_append_drop]
 conv=>lhs;rw [e]
 rw [zH,List.flatMap_cons,yR (by simp)]
 have hq:=(List.getElem?_eq_some_iff.1 h).1
 have e2:(yD j l++l[j]::yE (j+1) l).take j=l.take j:=by rw [<-e]
 rw [e2,zw,yL hq]
 exact h
noncomputable def li(γ:Gra)(b:Nat):List Nat:=(yr γ.arcs.length).filter (dW γ b)
noncomputable def bK(γ:Gra)(c:Nat->Nat)(k:Nat):List Nat:=(yr γ.arcs.length).filter (jX γ c k)++((yr γ.nodes).filter (jd γ c k)).flatMap (li γ)
theorem worth1_it {hq h0:Hp} (okq:hq.t.Sized hq.n) (ok0:h0.t.Sized h0.n) (kq:eo hq h0) (nq:hq.n<=h0.n) (hγ:Good γ) (hn:bz hq nb (ptrTo bp) γ) (x:fV hq mb p γ.nodes m c) {b3 b4 b5:Nat} (e3:h0.load b3 0 1=some [ptrTo bp]) (e4:h0.load b4 0 1=some [p]) (e5:h0.load b5 0 1=some [.int .i64 (k:Nat)]):
 ng yt 117 [] [ptrTo b3,ptrTo b4,ptrTo b5] h0 (fun c=>c=b3\/c=b4\/c=b5\/c<hq.n) ((bK γ c k).map fun(a:Nat)=>[.int .i64 (a:Nat)]):=by
 intro lb J Z hz Y h F s hj
 have n2:=hγ.n2
 have fp:Fl p:=by obtain⟨b,_,rfl,_⟩:=x.at0;exact dZ
 have kN: ∀h F,ItS h0 (fun c=>c=b3\/c=b4\/c=b5\/c<hq.n) h F->eo hq h:=fun h F s=>s.keep kq nq (fun c hc=>.inr (.inr (.inr hc)))
 have hnet: ∀h F,ItS h0 (fun c=>c=b3\/c=b4\/c=b5\/c<hq.n) h F->bz h nb (ptrTo bp) γ:=fun h F s=>hn.keep okq (kN h F s)
 have hcel: ∀h F,ItS h0 (fun c=>c=b3\/c=b4\/c=b5\/c<hq.n) h F->fV h mb p γ.nodes m c:=fun h F s=>x.keep okq (kN h F s)
 have hxI: ∀a,a<γ.arcs.length->jX γ c k a=true->((bK γ c k).map fun(a:Nat)=>[Value.int .i64 (a:Nat)])[0+((yr a).filter (jX γ c k)).length]? =some [.int .i64 (a:Nat)]:=fun a ha hb=>by
  have h1:=pj hb _ ha
  unfold bK
  rw [yM,yA,yL (List.getElem?_eq_some_iff.1 h1).1,h1];rfl
 have S:=Si s.ok
 refine enter (n:=31) (rs:=[]) rfl Tryz.e117 rfl rfl rfl (lbt rfl) ?_
 simp only [BS,LB,Nat.reduceLT]
 refine ag (cC (by exact jj)) S ?_;clear S;intro h by' S n_by'
 have s1:=s.gr S.gr
 have j1:=Y.gr _ _ _ _ hj S.gr
 have zy:=(S.row (b:=by') m0).lt S.ok
 have ly:=S.ld (b:=by') (o:=0) m0 rfl
 have o1:Own (· =by') _ _ F:=⟨yJ _,fun b hb=>⟨by subst hb;exact zy,fun hm=>by subst hb;have:=s.lt _ hm;omega,rfl⟩⟩
 simp only [BS,LB,Nat.reduceLT,Nat.reduceEqDiff]
 refine step_ret (won_ok ok0 hγ hz Y (B:=(· =by')) rfl ly (.inl rfl) e3 hnet (g:=119) (post:=#[ptrTo b3,ptrTo b4,ptrTo b5]) (f:=jX γ c k) (fun h F s _ a ha=>worth2_ok s.ok hγ (hnet _ _ s) (hcel _ _ s) (s.load ok0 e3 (.inl rfl)) (s.load ok0 e4 (.inr (.inl rfl))) (s.load ok0 e5 (.inr (.inr (.inl rfl)))) ha) hxI s1 o1 j1) ?_
 rintro v h2 (⟨rfl,F2,s2,o2,j2⟩|⟨rfl,z2⟩)
 . simp only [BS,LB,Nat.reduceLT,Nat.reduceEqDiff,Tryz.FFfl7117,s2.load ok0 e3 (.inl rfl),s2.load ok0 e4 (.inr (.inl rfl)),s2.load ok0 e5 (.inr (.inr (.inl rfl)))]
   refine step_ret (border_ok s2.ok hγ (hnet _ _ s2) (hcel _ _ s2) (k:=k)) ?_
   rintro vB hB ⟨gB,sB,nB⟩
   have sA:=s2.gr gB
   have jA:=Y.gr _ _ _ _ j2 gB
   have oA:=o2.gr gB
   have lB:hB.load by' 0 1=some [.func (.yield lb) #[] #[]]:=jF ly (oA.2 by' rfl).2.2
   have zyB:by'<hB.n:=yw zy oA.1
   have oB:Own (fun c=>c=by'\/au vB c) hB hB F2:=⟨yJ _,fun b hb=>⟨hb.elim (fun e=>by subst e;exact zyB) (fun h=>sB.lt sA.ok h),fun hm=>hb.elim (fun e=>(oA.2 b e).2.1 hm) (fun h=>by have:=nB b h;have:=s2.lt b hm;omega),rfl⟩⟩
   generalize hL:(yr γ.nodes).filter (jd γ c k)=L at sB
   have hLn: ∀b∈L,b<γ.nodes:=fun b hb=>by rw [<-hL]at hb;exact List.mem_range.1 (List.mem_filter.1 hb).1
   have hLl:L.length<=γ.nodes:=by rw [<-hL];exact iH
   simp only [BS,LB,Nat.reduceLT,Nat.reduceEqDiff,Tryz.FFfl7117,sB.lenq]
   refine aJ (fun(j:Nat) ρ h=>j<=L.length/\ ∃F,ItS h0 (fun c=>c=b3\/c=b4\/c=b5\/c<hq.n) h F/\Own (fun c=>c=by'\/au vB c) hB h F/\J (((yr γ.arcs.length).filter (jX γ c k)).length+((L.take j).flatMap (li γ)).length) h F/\ρ 1=ptrTo b3/\ρ 5=.func (.func 118) #[] #[ptrTo b3,ptrTo by']/\ρ 17=vB/\ρ 18=.int .i64 (L.length:Nat)/\ρ 19=.int .i64 j) (fun j=>L.length-j) ?_ 0 _ _ ?_
   . clear S s1 j1 o1 s2 j2 o2 sA jA oA oB
     intro j ih ρ h ⟨hj',F,s,o,hj,r1,r5,r17,r18,r19⟩
     have w:aq .i64 ((j:Int)+1)=((j+1:Nat):Int):=by rw [wrap64]<;>omega
     by_cases hlt:j<L.length
     . have hb:=hLn _ (yy hlt)
       have sl:aC h 1 bO vB L:=sl_get sB (fun c hc=>(o.2 c (.inr hc)).2.2)
       obtain⟨d,oo,x0,y0⟩:=sl.ix (kd:=.i64) bQ hlt
       have hxT: ∀a,a<γ.arcs.length->dW γ L[j] a=true->((bK γ c k).map fun(a:Nat)=>[Value.int .i64 (a:Nat)])[((yr γ.arcs.length).filter (jX γ c k)).length+((L.take j).flatMap (li γ)).length+((yr a).filter (dW γ L[j])).length]? =some [.int .i64 (a:Nat)]:=fun a ha hb=>by
        have h1:(li γ L[j])[((yr a).filter (dW γ L[j])).length]? =some a:=pj hb _ ha
        unfold bK
        rw [hL,yA,Nat.add_assoc,yR (by omega),zw,flat_at hlt h1];rfl
       have tk:((L.take (j+1)).flatMap (li γ)).length=((L.take j).flatMap (li γ)).length+((yr γ.arcs.length).filter (dW γ L[j])).length:=by
        rw [yB hlt,zH,zg]
        simp [li]
       generalize L[j]=b at hb y0 hxT tk
       replace y0:h.load d oo 1=some [.int .i64 (b:Nat)]:=y0
       simp only [BS,LB,Nat.reduceLT,Nat.reduceEqDiff,Tryz.FFfl7117,r1,r17,r18,r19,ax,hlt,x0,y0,s.load ok0 e3 (.inl rfl)]
       refine step_ret (arcsT_ok s.ok hγ (hnet _ _ s) hb) ?_
       rintro r h4 ⟨g4,bl,rfl,R4,nl⟩
       have S:=Si g4.ok
       simp only [BS,Tryz.FFfl7117]
       refine ag aw S ?_;clear S;intro h b8 S n_b8
       simp only [BS,LB,Nat.reduceLT,Nat.reduceEqDiff]
       refine aA (aB S (i:=0) rfl Tryz.s43 cg (yz (lbt rfl)) ono) ?_
       clear S;rintro h5 ⟨S,_⟩
       simp only [LC]at S
       have g5:=g4.trans S.gr
       have s5:=s.gr g5
       have j5:=Y.gr _ _ _ _ hj g5
       have o5:=o.gr g5
       have R8:=S.row (b:=b8) m0
       have Rl:=R4.gr S.gr
       have k4:=g4.n
       have oC:Own (fun c=>(c=by'\/au vB c)\/c=b8\/c=bl) h5 h5 F:=⟨yJ _,fun b hb=>by
        rcases hb with hb|rfl|rfl
        . exact⟨yw (o5.2 b hb).1 o5.1,(o5.2 b hb).2.1,rfl⟩
        . exact⟨R8.lt S.ok,fun hm=>by have:=s.lt _ hm;omega,rfl⟩
        . exact⟨Rl.lt S.ok,fun hm=>by have:=s.lt _ hm;omega,rfl⟩⟩
       have l5:h5.load by' 0 1=some [.func (.yield lb) #[] #[]]:=jF lB (o5.2 by' (.inl rfl)).2.2
       simp only [BS,LB,Nat.reduceLT,Nat.reduceEqDiff,r5]
       refine step_ret (won_ok ok0 hγ hz Y (B:=fun c=>(c=by'\/au vB c)\/c=b8\/c=bl) (.inl (.inl rfl)) l5 (.inl rfl) e3 hnet (g:=123) (post:=#[ptrTo b8]) (f:=dW γ b) (fun h F s o a ha=>worth3_ok s.ok (jF (R8.load1 (o:=0) rfl) (o.2 b8 (.inr (.inl rfl))).2.2) (Row.of_get (o.2 bl (.inr (.inr rfl))).2.2 Rl) ha) hxT s5 oC j5) ?_
       rintro v h6 (⟨rfl,F6,s6,o6,j6⟩|⟨rfl,z6⟩)
       . simp only [BS,LB,Nat.reduceLT,Nat.reduceEqDiff,r19,w]
         refine ih (j+1) _ _ (by omega) ⟨by omega,F6,s6,⟨yx o5.1 o6.1,fun b hb=>⟨(o5.2 b hb).1,(o6.2 b (.inl hb)).2.1,(o6.2 b (.inl hb)).2.2.trans (o5.2 b hb).2.2⟩⟩,by rw [tk,<-Nat.add_assoc];exact j6,by simp [aa,r1,ab],by simp [aa,r5],by simp [aa,r17],by simp [aa,r18],by simp [aa]⟩
       . simp only [BS,LB,Nat.reduceLT,Nat.reduceEqDiff]
         exact eS rfl ⟨rfl,.inr (.inl ⟨_,rfl,z6⟩)⟩
     . have:j=L.length:=by omega
       subst this
       simp only [BS,LB,Nat.reduceLT,r18,r19,ax,hlt]
       refine cR (dh ⟨rfl,_,rfl,rfl,.inl ⟨_,F,rfl,?_⟩⟩)
       rw [yP]at hj
       rw [yI]
       unfold bK
       rw [zg,hL]
       exact hj
   . exact⟨yH _,F2,sA,oB,by simpa using jA,by simp [aa,cf,ab],by simp [aa,ab],by simp [aa],by simp [aa],by simp [aa]⟩
 . simp only [BS,LB,Nat.reduceLT,Nat.reduceEqDiff]
   exact eS rfl ⟨rfl,.inr (.inl ⟨_,rfl,z2⟩)⟩
end
end Go.Ab

end
section
namespace Go.Ab
open Go.Proofs
set_option maxRecDepth 10000
open Tryz in
def Tryz.FFfl814:=aj a1<|aj s1<|aj z1<|aj n1<|aj u2<|aj a2<|aj s2<|aj z2<|aj i2<|aj u3<|aj a3<|aj s3<|aj z3<|aj i3<|aj u4<|aj a4<|aj s4<|aj z4<|aj n4<|aj u5<|aj a5<|aj s5<|aj z5<|aj i5<|aj u6<|aj a6<|aj s6<|aj z6<|aj i6<|aj a7<|aj s7<|aj z7<|aj i7<|aj n7<|aj p7<|aj ff7<|aj d7<|aj a8<|aj s8<|aj z8<|aj i8<|aj n8<|aj p8<|aj ff8<|aj d8<|aj u9<|aj a9<|aj s9<|aj z9<|aj n9<|aj u10<|aj a10<|aj s10<|aj z10<|aj n10<|aj u11<|aj a11<|aj s11<|aj z11<|aj n11<|aj u22<|aj a22<|aj s22<|aj z22<|aj q22<|aj n22<|aj u26<|aj a26<|aj s26<|aj z26<|aj q26<|aj n26<|aj a28<|aj s28<|aj z28<|aj i28<|aj n28<|aj p28<|aj ff28<|aj d28<|aj u29<|aj a29<|aj s29<|aj z29<|aj q29<|aj i29<|aj n29<|aj u30<|aj a30<|aj s30<|aj z30<|aj q30<|aj i30<|aj n30<|aj u34<|aj a34<|aj s34<|aj z34<|aj q34<|aj i34<|aj n34<|aj u38<|aj a38<|aj s38<|aj z38<|aj q38<|aj n38<|aj a49<|aj s49<|aj z49<|aj i49<|aj n49<|aj p49<|aj ff49<|aj d49<|aj a110<|aj s110<|aj z110<|aj n110<|aj a115<|aj s115<|aj z115<|aj i115<|aj n115<|aj p115<|aj ff115<|aj d115<|aj a117<|aj s117<|aj z117<|aj i117<|aj n117<|aj p117<|aj ff117<|aj d117<|aj u190<|aj a190<|aj s190<|aj z190<|aj q190<|aj n190<|aj a192<|aj s192<|aj z192<|aj i192<|aj n192<|aj p192<|aj ff192<|d192
def OkB(γ:Gra)(c:Nat->Nat)(long k i:Nat)(B:Nat->Nat):Prop:= ∀k' a,a<γ.arcs.length->(dH B long k' a=true↔(k'<k/\a∈bK γ c k')\/(k'=k/\a∈(bK γ c k).take i))
theorem OkB.zero{γ:Gra}{c:Nat->Nat}{long:Nat}:OkB γ c long 0 0 (fun _=>0):=fun k' a _=>by simp [dH]
theorem OkB.next{γ:Gra}{c:Nat->Nat}{long k:Nat}{B:Nat->Nat}(o:OkB γ c long k (bK γ c k).length B):OkB γ c long (k+1) 0 B:=fun k' a ha=>by
 rw [o k' a ha,yP]
 simp only [List.take_zero,yO,and_false,or_false]
 constructor
 . rintro(⟨h1,h2⟩|⟨rfl,h2⟩)
   . exact⟨by omega,h2⟩
   . exact⟨by omega,h2⟩
 . rintro⟨h1,h2⟩
   by_cases e:k'=k
   . subst e;exact .inr ⟨rfl,h2⟩
   . exact .inl ⟨by omega,h2⟩
theorem OkB.set{γ:Gra}{c:Nat->Nat}{long k i:Nat}{B:Nat->Nat}(hl:long=(γ.arcs.length+7)/8)(o:OkB γ c long k i B)(hi:i<(bK γ c k).length)(hlt:(bK γ c k)[i]<γ.arcs.length):OkB γ c long k (i+1) (bM B (k*long+(bK γ c k)[i]/8) (setB (B (k*long+(bK γ c k)[i]/8)) ((bK γ c k)[i]%8))):=fun k' a ha=>by
 rw [bitB_set (by omega) (by omega),yB hi]
 by_cases e:k'=k/\a=(bK γ c k)[i]
 . rw [if_pos e]
   obtain⟨rfl,e⟩:=e
   subst e
   exact⟨fun _=>.inr ⟨rfl,List.mem_append.2 (.inr (List.mem_singleton.2 rfl))⟩,fun _=>rfl⟩
 . rw [if_neg e,o k' a ha]
   simp only [yZ,zh]
   constructor
   . rintro(h|⟨h1,h2⟩)
     . exact .inl h
     . exact .inr ⟨h1,.inl h2⟩
   . rintro(h|⟨h1,h2|h2⟩)
     . exact .inl h
     . exact .inr ⟨h1,h2⟩
     . exact absurd ⟨h1,h2⟩ e
theorem worthL_lt{γ:Gra}{c:Nat->Nat}{k a:Nat}(h:a∈bK γ c k):a<γ.arcs.length:=by
 unfold bK at h
 rcases List.mem_append.1 h with h|h
 . exact List.mem_range.1 (List.mem_filter.1 h).1
 . obtain⟨b,_,h⟩:=List.mem_flatMap.1 h
   exact List.mem_range.1 (List.mem_filter.1 h).1
theorem perm_db{α:Type}{x a b d:α}{l:List α}:List.Perm (x::([a,b]++(d::l))) ([d,x,a,b]++l):=by
 show List.Perm ([x,a,b]++d::l) (d::([x,a,b]++l))
 exact List.perm_middle
theorem tU{L:List (Nat×Ob)}{dbs:List Nat}:keys (L++cL dbs) []=L.map Prod.fst++dbs:=by
 simp [keys,cL,zm]
theorem ofB_ok {h0:Hp} (ok:h0.t.Sized h0.n) {γ:Gra} {nb mb bp cb:Nat} {m:List Int} {c:Nat->Nat} {M:Nat} (hγ:Good γ) (hn:bz h0 nb (ptrTo bp) γ) (x:fV h0 mb (ptrTo cb) γ.nodes m c) (hM:eK m+1=(M:Int)) (hM5:M<=100):
 Ret yt 14 [ptrTo bp,ptrTo cb] h0 fun r h'=>Gr h0 h'/\ ∃fp fb B,r=ptrTo fp/\h0.n<=fp/\h0.n<=fb/\fp≠fb/\gJ h' fp fb M γ.arcs.length ((γ.arcs.length+7)/8) B/\OkB γ c ((γ.arcs.length+7)/8) M 0 B:=by
 have S:=Si ok
 have n1:=hγ.n1
 have n2:=hγ.n2
 have many:=hγ.many
 have xl:=x.len
 have co: ∀{h},Gr h0 h->jm h (ptrTo cb) m (M:Int):=fun g=>.inr ⟨⟨_,(x.gr g).at0⟩,by rw [hM]⟩
 refine ac (n:=33) (rs:=[.tmp 4]) rfl Tryz.e14 rfl rfl rfl (lbt rfl) ?_
 simp only [BS,LB,Nat.reduceLT,Nat.reduceEqDiff]
 refine ar (vr S.ok hn (co S.gr) n1 (by omega)) ?_
 intro h1 g1;replace S:=S.call g1
 simp only [BS,LB,Nat.reduceLT,Nat.reduceEqDiff,xl]
 refine ar (mj S.ok (co S.gr)) ?_
 intro h2 g2;replace S:=S.call g2
 simp only [BS,LB,Nat.reduceLT,Nat.reduceEqDiff]
 refine ar (jZ S.ok (hn.gr S.gr)) ?_
 intro h3 g3;replace S:=S.call g3
 simp only [BS,LB,Nat.reduceLT,Nat.reduceEqDiff]
 refine step_ret (bmNew_ok S.ok hM5 (by omega)) ?_
 rintro r hN ⟨gN,fp,fb,rfl,nf,nfb,hne,BN⟩
 have k3:=S.gr.n
 have okS:=S.ok
 have gq:=S.gr.trans gN
 have kN:=gN.n
 have gS:=S.gr
 clear S
 have S:St (· =fb) hN hN [(fb,.row _ 1)] []:=St.init1 gN.ok (o:=.row _ 1) BN.b
 have zf:=BN.b.lt gN.ok
 have zp:=BN.r.lt gN.ok
 simp only [BS,Tryz.FFfl814]
 refine ag aw S ?_;clear S;intro h b5 S n_b5
 simp only [BS,LB,Nat.reduceLT,Nat.reduceEqDiff]
 refine aA (aB S (i:=0) rfl ?_ ?_ ?_ ono) ?_
 . exact(by simp only [Tryz.FFfl814])
 . exact(by exact dZ)
 . exact yz (lbt rfl)
 clear S;rintro h ⟨S,mo⟩;clear mo;simp only [LC,ah,lay,yD,yE,Nat.reduceAdd]at S
 simp only [BS,LB,Nat.reduceLT,Nat.reduceEqDiff]
 have gO: ∀{h:Hp} {L:List (Nat×Ob)} {G:List GL},St (· =fb) hN h L G->Gr h0 h:=fun S=>(gq.fr.trans S.fr (fun b e=>.inr (by subst e;omega)):Mo NoM _ _).gr
 have kO: ∀{h:Hp} {L:List (Nat×Ob)} {G:List GL},St (· =fb) hN h L G->gJ hN fp fb M γ.arcs.length ((γ.arcs.length+7)/8) (fun _=>0)->Row h fp [.int .i64 M,.int .i64 γ.arcs.length,.int .i64 ((γ.arcs.length+7)/8:Nat),.slice (some ⟨fb,0,none⟩) (M*((γ.arcs.length+7)/8)) (M*((γ.arcs.length+7)/8))] 1:=fun S b=>Row.of_get (S.fr.get fp zp hne) b.r
 have hr:=fun {h:Hp} {L:List (Nat×Ob)} {G:List GL} (S:St (· =fb) hN h L G)=>kO S BN
 refine ar (mj S.ok (co (gO S))) ?_
 intro h4 g4;replace S:=S.call g4
 simp only [BS]
 generalize hlong:(γ.arcs.length+7)/8=long at*
 refine mS (fun(k:Nat) ρ d h=>k<=M/\ ∃dbs B,d=dbs.map mX/\St (· =fb) hN h ([(b5,.row [ptrTo fp] 1),(fb,.row (ii (M*long) B) 1)]++cL dbs) []/\(∀j,B j<256)/\OkB γ c long k 0 B/\ρ 0=ptrTo bp/\ρ 1=ptrTo cb/\ρ 5=ptrTo b5/\ρ 18=.int .i64 (M:Nat)/\ρ 19=.int .i64 k) (fun k=>M-k) ?_ 0 _ _ _ ?_
 . clear S g4
   rintro k ih ρ d h ⟨hk,dbs,B,rfl,S,hB,oB,r0,r1,r5,r18,r19⟩
   have w:aq .i64 ((k:Int)+1)=((k+1:Nat):Int):=by rw [wrap64]<;>omega
   by_cases hlt:k<M
   . simp only [BS,LB,Nat.reduceLT,Nat.reduceEqDiff,Tryz.FFfl814,r18,r19,ax,hlt]
     refine ag aw S ?_;clear S;intro h b6 S n_b6
     simp only [BS,LB,Nat.reduceLT,Nat.reduceEqDiff]
     refine aA (aB S (i:=0) rfl ?_ ?_ ?_ ono) ?_
     . exact(by simp only [Tryz.FFfl814])
     . exact(by exact bu)
     . exact yz (lbt rfl)
     clear S;rintro h ⟨S,mo⟩;clear mo;simp only [LC,ah,lay,yD,yE,Nat.reduceAdd]at S
     simp only [BS,LB,Nat.reduceLT,Nat.reduceEqDiff,Tryz.FFfl814,r0,r1,S.ld (b:=b6) (o:=0) m0 rfl]
     refine step_ret (worth_ok S.ok (k:=k) dZ) ?_
     rintro v hW ⟨gW,w3,w4,w5,rfl,n3,n4,n5,e3,e4,e5⟩
     have kk: ∀b∈[b6,b5,fb]++dbs,h0.n<=b/\b<w3/\b<w4/\b<w5/\b<hW.n:=fun b hb=>by
      have hm:b∈keys ([(b6,Ob.row [.int .i64 (k:Nat)] 1),(b5,.row [ptrTo fp] 1),(fb,.row (ii (M*long) B) 1)]++cL dbs) []:=by rw [tU];exact hb
      have h1:=S.key_lt hm
      have h2:=S.key_own hm
      have h3:=gW.n
      have h4:h0.n<=b:=h2.elim (fun h=>by omega) (fun h=>by subst h;omega)
      omega
     replace S:=S.call gW
     have okw:=gW.n
     have hW0:=gO S
     have zN:=S.fr.n
     have it:=worth1_it ok S.ok hW0.keep hW0.n hγ hn x e3 e4 e5
     simp only [BS]
     refine g9 S (g:=117) (a:=#[]) (b:=#[ptrTo w3,ptrTo w4,ptrTo w5]) (by simp [bS,aa,ab]) rfl rfl ?_
     intro h2 db lb S' hdb hlb g2
     obtain⟨X,hX,S'⟩: ∃X:eX,X=_/\St (· =fb) hN h2 ([(lb,.loop X),(db,.dfr),(b6,.row [.int .i64 (k:Nat)] 1),(b5,.row [ptrTo fp] 1),(fb,.row (ii (M*long) B) 1)]++cL dbs) []:=⟨_,rfl,S'⟩
     have hJ:Yld yt lb (fun i h' F=> ∃B,St (· =fb) hN h' ([(lb,.loop X),(db,.dfr),(b6,.row [.int .i64 (k:Nat)] 1),(b5,.row [ptrTo fp] 1),(fb,.row (ii (M*long) B) 1)]++cL dbs) []/\(∀j,B j<256)/\OkB γ c long k i B/\F=[lb,db,b6,b5,fb]++dbs) (fun _ _=>False) ((bK γ c k).map fun(a:Nat)=>[.int .i64 (a:Nat)]):=by
      refine⟨?_,?_,fun _ _ h=>h.elim,?_⟩
      . rintro i h F ⟨B,S,_,_,rfl⟩;exact⟨S.ok,fun b hb=>S.key_lt (by rw [tU];exact hb)⟩
      . rintro i h F h' ⟨B,S,a,b,rfl⟩ gg;exact⟨B,S.call gg,a,b,rfl⟩
      . rintro i x hR F hx ⟨B,S,hB,oB,rfl⟩
        have hil:i<(bK γ c k).length:=by
         have:=(List.getElem?_eq_some_iff.1 hx).1
         simpa using this
        rw [yA,yv hil]at hx
        cases hx
        have hxn:(bK γ c k)[i]<γ.arcs.length:=worthL_lt (yy hil)
        have oB':=oB.set hlong.symm hil hxn
        generalize(bK γ c k)[i]=a at hxn oB'
        subst hX
        refine hQ (S.get m0) (by rw [Tryz.e14];rfl) rfl ?_
        have S0:=S
        replace S:=S.base
        simp only [BS,LB,Nat.reduceLT,Nat.reduceEqDiff]
        refine gw S (i:=0) rfl rfl rfl rfl rfl ?_
        clear S;intro h S
        simp only [LC]at S
        simp only [BS,LB,Nat.reduceLT,Nat.reduceEqDiff,Tryz.FFfl814,r5,S.ld (b:=b6) (o:=0) m2 rfl,S.ld (b:=b5) (o:=0) m3 rfl]
        have BA:gJ h fp fb M γ.arcs.length long B:=⟨hr (S0.rebase S),S.row (b:=fb) m4,hB⟩
        refine step_ret (bSet_ok S.ok BA hne hlt hxn hM5 (by omega) hlong.symm) ?_
        rintro v h5 ⟨f5,rfl,B5⟩
        have S5:=S.call1 (i:=4) (o':=.row _ 1) rfl f5 B5.b
        simp only [yT,ze]at S5
        clear S
        simp only [BS]
        refine d6 S5 (i:=0) rfl ?_
        clear S5;intro h S
        simp only [LC]at S
        refine .inl ⟨rfl,_,⟨_,S0.rebase S,B5.lt,oB',rfl⟩,?_,fun c hc=>.inl hc⟩
        exact S.fr.mono fun b hb=>by simpa [keys,cL,zm]using hb
     refine fu (it lb _ _ (fun _ _ h=>h) hJ h2 ([lb,db,b6,b5,fb]++dbs) ?_ ⟨B,S',hB,oB,rfl⟩) fun o rc h' y=>hU y ?_
     . have kn:=g2.n
       refine⟨S'.ok,g2.n,fun b hb hd=>g2.get b hb,fun b hb h=>?_,fun b hb=>S'.key_lt (by simpa [keys,cL,zm]using hb)⟩
       simp only [yZ,yW,yO,or_false]at hb
       obtain⟨h1,h2⟩:=h
       have hx:b=lb\/b=db\/b∈[b6,b5,fb]++dbs:=by
        rcases hb with(hb|hb|hb)|hb
        . exact .inl hb
        . exact .inr (.inl hb)
        . exact .inr (.inr (List.mem_append.2 (.inl (by simpa using hb))))
        . exact .inr (.inr (List.mem_append.2 (.inr hb)))
       rcases hx with rfl|rfl|hx
       . omega
       . omega
       . have:=kk b hx
         omega
     . rintro F ⟨B1,T,hB1,oB1,rfl⟩
       rw [yI]at oB1
       subst hX
       refine⟨_,T.get m0,yY,?_⟩
       replace T:=T.dead
       show Run _ _ _ _ _ _ _ _
       have T1:St (· =fb) hN _ ([(db,.dfr),(b6,.row [.int .i64 (k:Nat)] 1),(b5,.row [ptrTo fp] 1),(fb,.row (ii (M*long) B1) 1)]++cL dbs) []:=T
       have T':St (· =fb) hN _ ([(b5,.row [ptrTo fp] 1),(fb,.row (ii (M*long) B1) 1)]++(db,.dfr)::cL dbs) []:=(T1.permL perm_db).drop1
       simp only [BS,LB,Nat.reduceLT,Nat.reduceEqDiff,r19,w]
       exact ih (k+1) _ _ _ (by omega) ⟨by omega,db::dbs,B1,rfl,T',hB1,oB1.next,by simp [aa,r0,ab],by simp [aa,r1,ab],by simp [aa,r5,ab],by simp [aa,r18],by simp [aa]⟩
   . have:k=M:=by omega
     subst this
     have gE:=gO S
     have S0:=S
     simp only [LC]at S
     simp only [BS,LB,Nat.reduceLT,Nat.reduceEqDiff,Tryz.FFfl814,r5,r18,r19,ax,hlt,S.ld (b:=b5) (o:=0) m0 rfl]
     refine eP (iw dbs _ (L:=[(b5,_),(fb,_)]) (S0.permL zB) fun h4 S4=>?_)
     refine⟨rfl,(gV (by decide)).2 (eV.2 ?_)⟩
     refine⟨gO S4,fp,fb,B,?_,by omega,by omega,hne,⟨hr S4,S4.row m1,hB⟩,oB⟩
     exact rfl
 . exact⟨yH _,[],_,rfl,S,BN.lt,OkB.zero,by simp [aa,cf,ab],by simp [aa,cf,ab],by simp [aa,ab],by simp [aa],by simp [aa]⟩
open Tryz in
def Tryz.FFfl923:=aj a1<|aj s1<|aj z1<|aj n1<|aj u2<|aj a2<|aj s2<|aj z2<|aj i2<|aj u3<|aj a3<|aj s3<|aj z3<|aj i3<|aj u4<|aj a4<|aj s4<|aj z4<|aj n4<|aj u5<|aj a5<|aj s5<|aj z5<|aj i5<|aj u6<|aj a6<|aj s6<|aj z6<|aj i6<|aj a7<|aj s7<|aj z7<|aj i7<|aj n7<|aj p7<|aj ff7<|aj d7<|aj a8<|aj s8<|aj z8<|aj i8<|aj n8<|aj p8<|aj ff8<|aj d8<|aj u9<|aj a9<|aj s9<|aj z9<|aj n9<|aj u22<|aj a22<|aj s22<|aj z22<|aj q22<|aj n22<|aj u34<|aj a34<|aj s34<|aj z34<|aj q34<|aj i34<|aj n34<|aj u38<|aj a38<|aj s38<|aj z38<|aj q38<|aj n38<|aj u43<|aj a43<|aj s43<|aj z43<|aj q43<|aj n43<|aj a115<|aj s115<|aj z115<|aj i115<|aj n115<|aj p115<|aj ff115<|d115
theorem tz{h0:Hp}(ok:h0.t.Sized h0.n){fp fb rows wide long k:Nat}{B:Nat->Nat}(m:gJ h0 fp fb rows wide long B)(hk:k<rows)(hrows:rows<=100)(hwide:wide<=1000)(hlong:long=(wide+7)/8):
 Ret yt 23 [ptrTo fp,.int .i64 (k:Nat)] h0 fun r h'=>Gr h0 h'/\ ∃bl,r=.slice (some ⟨bl,0,none⟩) wide wide/\Row h' bl (df wide (dH B long k)) 1/\h0.n<=bl:=by
 have S:=Si ok
 have c0: ¬((k:Int)<0):=by omega
 have c1: ¬((rows:Int)<=(k:Int)):=by omega
 refine ac (n:=32) (rs:=[.tmp 4]) rfl Tryz.e23 rfl rfl rfl (lbt rfl) ?_
 simp only [BS,LB,Nat.reduceLT,Nat.reduceEqDiff,c0]
 refine ar (iA S.ok m.bits) ?_
 intro h1 g1;replace S:=S.call g1
 simp only [BS,LB,Nat.reduceLT,Nat.reduceEqDiff,c1]
 refine ar (iK S.ok (m.gr S.gr).bits) ?_
 intro h2 g2;replace S:=S.call g2
 simp only [BS,LB,Nat.reduceLT,Nat.reduceEqDiff]
 refine ag (ja (by exact Tryz.u43) (by exact Tryz.e4E) (by omega) (by omega)) S ?_;clear S;intro h bl S n_bl
 have e0:aT [Value.bool false] wide=df wide (fun a=>decide (a∈((yr wide).filter (dH B long k)).take 0)):=by
  rw [kU]
  unfold df
  simp [yX]
 rw [yC,e0]at S
 simp only [BS,LB,Nat.reduceLT,Nat.reduceEqDiff,yC]
 refine step_ret (bRow_ok S.ok (m.gr S.gr) hk hrows hwide hlong) ?_
 rintro v h3 ⟨g3,sl,nv⟩
 have k3:=(S.row (b:=bl) m0).lt S.ok
 replace S:=S.call g3
 generalize hL:(yr wide).filter (dH B long k)=L at sl S
 have hLm: ∀a∈L,a<wide:=fun a ha=>by rw [<-hL]at ha;exact List.mem_range.1 (List.mem_filter.1 ha).1
 have hLl:L.length<=wide:=by rw [<-hL];exact iH
 have okA:=S.ok
 have nA:=S.gr
 simp only [BS,LB,Nat.reduceLT,Nat.reduceEqDiff,Tryz.FFfl923,sl.lenq]
 refine aJ (fun(i:Nat) ρ h=>i<=L.length/\St NoM h0 h [(bl,.row (df wide (fun a=>decide (a∈L.take i))) 1)] []/\(∀c,au v c->h.get c=h3.get c)/\ρ 5=.slice (some ⟨bl,0,none⟩) wide wide/\ρ 21=v/\ρ 22=.int .i64 (L.length:Nat)/\ρ 23=.int .i64 i) (fun i=>L.length-i) ?_ 0 _ _ ?_
 . clear S
   intro i ih ρ h ⟨hi,S,hv,r5,r21,r22,r23⟩
   have w:aq .i64 ((i:Int)+1)=((i+1:Nat):Int):=by rw [wrap64]<;>omega
   by_cases hlt:i<L.length
   . have sh:=sl_get sl hv
     obtain⟨d,oo,x0,y0⟩:=sh.ix (kd:=.i64) bQ hlt
     have hxn:=hLm _ (yy hlt)
     have tk:df wide (fun u=>decide (u∈L.take (i+1)))=(df wide (fun u=>decide (u∈L.take i))).set L[i] (.bool true):=by
      rw [vV]
      refine je fun j _=>?_
      rw [yB hlt]
      simp only [yZ,zh]
      by_cases e1:j=L[i]<;>by_cases e2:j∈L.take i<;>simp [e1,e2]
     rw [show(L.take (i+1))=L.take (i+1)from rfl]at tk
     generalize L[i]=x at hxn y0 tk
     replace y0:h.load d oo 1=some [.int .i64 (x:Nat)]:=y0
     simp only [BS,LB,Nat.reduceLT,Nat.reduceEqDiff,Tryz.FFfl923,r5,r21,r22,r23,ax,hlt,x0,y0]
     have S1:=S
     replace S:=S.base
     simp only [BS,LB,Nat.reduceLT,Nat.reduceEqDiff,hxn]
     refine aA (aB S (i:=0) rfl Tryz.s4 mr (by rw [oa];exact hxn) ono) ?_
     clear S;rintro h' ⟨S,mo⟩
     simp only [LC]at S
     simp only [BS,LB,Nat.reduceLT,Nat.reduceEqDiff,r23,w]
     refine ih (i+1) _ _ (by omega) ⟨by omega,?_,?_,by simp [aa,r5],by simp [aa,r21],by simp [aa,r22],by simp [aa]⟩
     . rw [tk];exact S1.rebase S
     . intro c hc
       have h1:=nv c hc
       exact(mo.get c (sh.blt S1.ok hc) (fun e=>by have e:c=bl:=e;omega)).trans (hv c hc)
   . have:i=L.length:=by omega
     subst this
     simp only [BS,LB,ae,Nat.reduceLT,Nat.reduceEqDiff,r5,r22,r23,ax,hlt]
     refine⟨S.gr,bl,rfl,?_,n_bl⟩
     have e:df wide (dH B long k)=df wide (fun a=>decide (a∈L.take L.length)):=je fun j hj=>by
      rw [yP,<-hL]
      simp [List.mem_filter,hj]
     rw [e]
     exact S.row m0
 . exact⟨yH _,S,fun c hc=>rfl,by simp [aa],by simp [aa],by simp [aa],by simp [aa]⟩
theorem qu{h0:Hp}(ok:h0.t.Sized h0.n){fp fb rows wide long:Nat}{B:Nat->Nat}(m:gJ h0 fp fb rows wide long B):
 bF yt 23 [ptrTo fp,.int .i64 (rows:Nat)] h0 (.slice none 0 0)/\bF yt 23 [ptrTo fp,.int .i64 (-1)] h0 (.slice none 0 0):=by
 refine⟨?_,?_⟩
 . have S:=Si ok
   have c0: ¬((rows:Int)<0):=by omega
   refine ac (n:=32) (rs:=[.tmp 4]) rfl Tryz.e23 rfl rfl rfl (lbt rfl) ?_
   simp only [BS,LB,Nat.reduceLT,Nat.reduceEqDiff,c0]
   refine ar (iA S.ok m.bits) ?_
   intro h1 g1;replace S:=S.call g1
   simp only [BS,LB,ae,Nat.reduceLT,Nat.reduceEqDiff,Int.le_refl]
   exact S.gr
 . have S:=Si ok
   refine ac (n:=32) (rs:=[.tmp 4]) rfl Tryz.e23 rfl rfl rfl (lbt rfl) ?_
   simp only [BS,LB,ae,Nat.reduceLT,Nat.reduceEqDiff,Int.reduceLT]
   exact S.gr
end Go.Ab
end

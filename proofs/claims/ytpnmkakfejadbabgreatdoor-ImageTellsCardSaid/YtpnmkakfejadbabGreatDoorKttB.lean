/- Nets, cells, flags: what the functions do (part 2). -/
import Derived.Test.YtpnmkakfejadbabGreatDoorKttA
open Go.Ab.Tryz
open Go.Ab.Tryz renaming abEnv->zB,e2E->X8,e3E->Yn,e5E->Yt,e78E->YM,e50E->Y5,e23E->Y7,e22->Za
open List renaming range->zM,flatMap_cons->zO,take_succ_eq_append_getElem->Xa,sublist_cons_self->Xc,getD_eq_getElem?_getD->Xf,length_append->Xh,flatMap_nil->Xi,getElem?_eq_getElem->Xj,replicate->Xk,drop_zero->Xm,take->Xo,drop->Xp,set_cons_zero->Xt,getElem_mem->Xu,length_map->Xv,take_of_length_le->Xx,flatMap_append->Xz,take_succ_cons->XA,length_take->XC,getElem?_map->XD,take_length->XE,append_assoc->XF,length_range->XG,getElem?_append_right->XH,take_zero->XI,map_congr_left->XJ,getElem?_append_left->XL,mem_singleton->XM,flatMap_eq_foldl->XP,map_append->XQ,drop_drop->XR,append_nil->XS,range_succ->XT,drop_eq_getElem_cons->XV,mem_cons_of_mem->XW,length_cons->XX,not_mem_nil->XY,drop_succ_cons->XZ,mem_cons->X3,all_cons->X4,take_append_of_le_length->X9,getElem?_eq_none->Ya,map_map->Yb,all_nil->Yd,mem_of_getElem?->Ye,map_cons->Yg,length_nil->Yj,drop_eq_nil_of_le->Ym,mem_append->Yq,replicate_zero->Yr,map_eq_flatMap->Ys,sublist_append_right->YA,perm_middle->YD,flatMap_map->YE,cons_append->YI,getElem_map->YJ,map_const'->YO,nil_append->YP,length->YR,drop_take->YS,take_append_drop->YT,set_append_right->YU,length_filter_le->YW,perm_append_comm->YX,mem_append_right->YY,take_take->YZ,take_replicate->Y3
open Nat renaming lt_of_succ_le->Xb,zero_add->Xd,le_trans->Xe,zero_le->Xg,lt_of_lt_of_le->Xq,mul_one->Xr,zero_mul->Xs,one_mul->Xy,le_refl->XB,shiftRight_eq_div_pow->XK,lt_of_le_of_lt->XN,xor_lt_two_pow->XO,zero_ne_one->X7,ble_eq_true_of_le->Yc,mul_le_mul_right->Yf,and_le_left->Yh,lt_or_eq_of_le->Yl,mul_comm->Yp,and_one_is_mod->Yu,mod_two_eq_zero_or_one->Yw,le_of_lt_succ->Yy,mod_eq_of_lt->YB,sub_self->YC,succ_mul->YF,le_total->YG,add_sub_cancel_left->YK,div_le_self->YL,not_lt_zero->YN,mul_le_mul->YV,pow_le_pow_right->Y0,add_assoc->Y1,mul_assoc->Y2,add_comm->Y4,beq_refl->Y6,mod_one->Y8
open Bool renaming and_true->Xl
open Int renaming cast_ofNat_Int->Xn,toNat_natCast->Xw,tdiv_eq_ediv_of_nonneg->XU,eq_ofNat_of_zero_le->X2,natCast_nonneg->X5,tmod_eq_emod_of_nonneg->Yx
open Option renaming map_some->X6,map_none->Yi,getD_some->Yo,isSome_none->Yv,getD_none->YH
open Prod renaming snd->Yk,fst->Y9
open Function renaming comp_def->Yz
set_option maxHeartbeats 4000000
set_option linter.defProp false
set_option linter.unusedVariables false
set_option linter.unusedSimpArgs false
namespace Go.Ab
variable{H N b c d e i j k m many n nb r rows u w x y z:Nat}
variable{E:Env}
variable{W p v vO:Value}
variable{q:Operand}
variable{l:List Int}
variable{g:FuncId}
variable{a h h' hq:Hp}
variable{s:Bs}
variable{D M:Nat->Prop}
variable{L:List (Nat×Ob)}
variable{G:List GL}
variable{F xs:List Nat}
variable{bad:Bool}
variable{f:Nat->Bool}
variable{A:List Arc}
variable{o o':Ob}
variable{B:Nat->Nat}
variable{K:Nat->Option Int}
variable{J:Nat->Hp->List Nat->Prop}
variable{fs ft:Arc->Nat}
variable{Q R:Nat->List Int}
variable{post:Array Value}
variable{val:Nat->Int}
open Go.Proofs
set_option maxRecDepth 10000
def j7(i:Nat):List Value:=(zM 16).map fun j=>.int .u32 ((if j<i then dO 4 j else 0:Nat):Int)
theorem kI(i:Nat):(j7 i).length=16:=by simp [j7]
theorem halfC_set:(j7 i).set i (.int .u32 ((dO 4 i:Nat):Int))=j7 (i+1):=by
 unfold j7;have:=mV (N:=16) (k:=i) (F:=fun j=>Value.int .u32 ((if j<i then dO 4 j else 0:Nat):Int)) (F':=fun j=>Value.int .u32 ((if j<i+1 then dO 4 j else 0:Nat):Int)) (fun j _ a=>by
  by_cases h:j<i
  . rw [if_pos h,if_pos (by omega)]
  . rw [if_neg h,if_neg (by omega)])
 rw [<-this,if_pos (by omega)]
theorem halfC_at(h:j<16):(j7 16)[j]? =some (.int .u32 ((dO 4 j:Nat):Int)):=by unfold j7;rw [qa (F:=fun j=>Value.int .u32 ((if j<16 then dO 4 j else 0:Nat):Int)) h,if_pos h]
theorem step_and(h:r<4294967296): ∃m:Nat,m<4294967296/\unP .neg (.int .u32 ((r&&& 1:Nat):Int))=some (.int .u32 (m:Int))/\(r>>>1) ^^^(3988292384&&& m)=jX r:=by
 have e:r&&& 1=r%2:=Yu r;rcases Yw r with a|a
 . refine⟨0,by decide,by rw [e,a];rfl,?_⟩;unfold jX;rw [a];simp
 . refine⟨4294967295,by decide,by rw [e,a];rfl,?_⟩;unfold jX;rw [a];rfl
theorem b_and1{t:TypeId}{p:Operand}(h:x<4294967296):bQ E .and t p q (.int .u32 (x:Int)) (.int .u32 1)=some (.int .u32 ((x&&& 1:Nat):Int)):=ut (k:=.u32) (y:=1) rfl h (by decide)
theorem b_andT{t:TypeId}{p:Operand}(h:x<4294967296):bQ E .and t p q (.int .u32 3988292384) (.int .u32 (x:Int))=some (.int .u32 ((3988292384&&& x:Nat):Int)):=ut (k:=.u32) (x:=3988292384) rfl (by decide) h
theorem b_and15{t:TypeId}{p:Operand}(h:x<4294967296):bQ E .and t p q (.int .u32 (x:Int)) (.int .u32 15)=some (.int .u32 ((x%16:Nat):Int)):=by have:=ut (E:=E) (t:=t) (p:=p) (q:=q) (k:=.u32) (x:=x) (y:=15) rfl h (by decide);rw [show x&&& 15=x%16 from Nat.and_two_pow_sub_one_eq_mod (n:=4) x]at this;exact this
theorem At{t:TypeId}{p:Operand}:bQ E .shr t p q (.int .u32 (x:Int)) (.int .u64 1)=some (.int .u32 ((x>>>1:Nat):Int)):=uo (k:=.u32) (k':=.u64) (y:=1) (by decide)
theorem lay_all{l m:List Value}(h:l.length=m.length):lay l 0 m=m:=by simp [lay,h]
theorem zL(i:Nat):(j7 i).all jx=true:=by simp [j7,jx]
theorem halves_ok{r:Hp}(F:OZ r):cj zB 204 [] r (.agg ⟨j7 16⟩):=by
 have S:=Si F;refine erA (n:=23) (rs:=[.cell 0 296]) e204 ?_;simp only [BZ];refine ag ay S ?_;clear S;intro h j S u;have v:[Value.int .u32 0,.int .u32 0,.int .u32 0,.int .u32 0,.int .u32 0,.int .u32 0,.int .u32 0,.int .u32 0,.int .u32 0,.int .u32 0,.int .u32 0,.int .u32 0,.int .u32 0,.int .u32 0,.int .u32 0,.int .u32 0]=j7 0:=rfl;rw [v]at S;simp only [BZ];refine aD (fun(i:Nat) c h=>i<=16/\St NoM r h [(j,.row (j7 i) 1)] []/\c 0=ptrTo j/\c 3=.int .i64 i) (fun i=>16-i) ?_ 0 _ _ ?_
 . clear S v;intro i G c h ⟨hi,S,d,f⟩;have w:am .i64 ((i:Int)+1)=((i+1:Nat):Int):=(by rw [wrap64]<;>omega);by_cases hlt:i<16
   . have g:(i:Int)<16:=(by omega);have H:=bJ (k:=.u32) rfl (n:=i) (by simp only [pw];omega);simp only [BZ,aV,ax,a9,f,g,H,seval];refine aD (fun(k:Nat) c z=>k<=4/\z=h/\c 0=ptrTo j/\c 1=.int .i64 i/\c 2=.int .u32 (dO k i:Nat)/\c 3=.int .i64 i/\c 8=.int .i64 k) (fun k=>4-k) ?_ 0 _ _ ?_
     . clear d f;rintro k s c z ⟨P,rfl,d,A,B,f,r8⟩;have I:am .i64 ((k:Int)+1)=((k+1:Nat):Int):=(by rw [wrap64]<;>omega);by_cases J:k<4
       . have l:(k:Int)<4:=(by omega);have C:dO k i<4294967296:=xC (by omega);obtain⟨m,K,L,M⟩:=step_and C;have N:=fun(t:TypeId) (p q:Operand)=>b_andT (E:=zB) (t:=t) (p:=p) (q:=q) K;have O:(dO k i)>>>1<4294967296:=(by rw [XK];omega);have D:=fun(t:TypeId) (p q:Operand)=>wh (E:=zB) (t:=t) (p:=p) (q:=q) (k:=.u32) (x:=(dO k i)>>>1) (y:=3988292384&&& m) rfl O (XN Yh (by decide));rw [M,<-Bl]at D;simp only [BZ,B,r8,l,At,b_and1 C,L,N,D,I,seval];exact s (k+1) _ _ (by omega) ⟨by omega,rfl,by simp [ao,d,A,f]⟩
       . have:k=4:=(by omega);subst this;simp only [BZ,Xn,d,A,B,f,r8,qo (n:=16) hlt,seval];refine au (aw S (i:=0) rfl t78.2.2.1 cE (by rw [kI];exact hlt) ono) ?_;clear S;rintro h ⟨S,_⟩;simp only [LC,halfC_set]at S;simp only [BZ,f,w,seval];exact G (i+1) _ _ (by omega) ⟨by omega,S,by simp [ao,d]⟩
     . exact⟨Xg _,rfl,by simp [ao,d,dO,f]⟩
   . have g: ¬(i:Int)<16:=(by omega);have:i=16:=(by omega);subst this;have a:=S.lds (b:=j) (o:=0) (n:=16) m0 (by rw [kI];decide);rw [Xm,Xx (by rw [kI];decide)]at a;simp only [BZ,Xn,d,f,a,seval];refine au (S.store (i:=0) rfl t296.2.2.1 (by intro x e;cases e) (kI 16) (zL 16) (Nat.le_of_eq (by show 0+(j7 16).length=_;rw [Xd])) ono) ?_;clear S;rintro h ⟨S,_⟩;simp only [LC,ae]at S;rw [lay_all rfl]at S;have a:=S.lds (b:=j) (o:=0) (n:=16) m0 (by rw [kI];decide);rw [Xm,Xx (by rw [kI];decide)]at a;simp only [BZ,ab];exact(bF (by decide) (by simp only [az,d,ah,seval];exact bz t296.2.1 t296.2.2.1 a)).2 (bV.2 ⟨rfl,S.gr⟩)
 . exact⟨Xg _,S,by simp [ao,ah]⟩
theorem taker_ok{b:Hp}(j:OZ b):Ret zB 158 [.int .u32 (r:Nat)] b fun v h'=>Gr b h'/\ ∃a c,v=.func (.func 205) #[] #[ptrTo a,ptrTo c]/\b.n<=a/\a≠c/\Row h' a [.int .u32 (r:Nat)] 1/\Row h' c (j7 16) 1:=by have S:=Si j;refine erA (n:=6) (rs:=[.tmp 2]) e158 ?_;simp only [BZ,seval];refine ag (bK (by intro x e;cases e)) S ?_;clear S;intro h a S d;simp only [ae]at S;simp only [BZ];refine ar (halves_ok S.ok) ?_;intro h g;replace S:=S.call g;simp only [BZ];refine ag ay S ?_;clear S;intro h c S f;simp only [BZ,seval];refine au (S.store (i:=0) rfl t296.2.2.1 (by intro x e;cases e) (kI 16) (zL 16) (lbt rfl) ono) ?_;clear S;rintro h ⟨S,_⟩;simp only [LC,ae]at S;rw [lay_all (m:=j7 16) (by rw [kI];rfl)]at S;have k:=S.apart;simp only [BZ,ab,seval];exact⟨S.gr,a,c,rfl,d,fun e=>by subst e;simp [keys]at k,S.row m1,S.row m0⟩
theorem taker1_ok{g:Hp}(N:OZ g){a s:Nat}{l:Bs}(O:r<4294967296)(W:l.length<=1000000)(P:Row g a [.int .u32 (r:Nat)] 1)(Q:Row g s (j7 16) 1)(B:a≠s):Ret zB 205 [sv l,ptrTo a,ptrTo s] g fun v h'=>v=.int .u32 (pu r l:Nat)/\Mo (· =a) g h':=by
 have S:=St.init1 N (o:=.row [.int .u32 (r:Nat)] 1) P;have J: ∀{h} (f:Mo (· =a) g h) {j:Nat},j<16->h.load s j 1=some [.int .u32 ((dO 4 j:Nat):Int)]:=fun f j R=>(f.has (o:=.row _ 1) Q (fun e=>B e.symm):Row _ s _ 1).load1 (halfC_at R);refine erA (n:=33) (rs:=[.tmp 4]) e205 ?_;simp only [BZ,cw,seval];refine aD (fun(k:Nat) u h=>k<=l.length/\St (· =a) g h [(a,.row [.int .u32 (pu r (l.take k):Nat)] 1)] []/\u 0=sv l/\u 1=ptrTo a/\u 2=ptrTo s/\u 7=.int .i64 l.length/\u 8=.int .i64 k) (fun k=>l.length-k) ?_ 0 _ _ ?_
 . clear S;intro k T u h ⟨hk,S,r0,r1,r2,r7,r8⟩;have w:am .i64 ((k:Int)+1)=((k+1:Nat):Int):=(by rw [wrap64]<;>omega);by_cases hlt:k<l.length
   . have X:=pB l[k];have U:=bJ (k:=.u32) rfl (n:=l[k].toNat) (by simp only [pw];omega);have A:pu r (l.take (k+1))=crcB (pu r (l.take k)) l[k].toNat:=(by rw [Xa hlt,xQ];rfl);have C:=ui (l:=l.take k) O;generalize pu r (l.take k)=c at S A C;have D:c ^^^l[k].toNat<4294967296:=XO (n:=32) C (by omega);have K:=fun(t:TypeId) (p q:Operand)=>wh (E:=zB) (t:=t) (p:=p) (q:=q) (k:=.u32) (x:=c) (y:=l[k].toNat) rfl C (by simp only [pw];omega);have m: ∀{z:Nat},z<4294967296->z>>>4<4294967296/\dO 4 (z%16)<4294967296/\(z>>>4) ^^^dO 4 (z%16)<4294967296:=fun {z} Y=>(by have L:z>>>4<4294967296:=(by rw [XK];omega);have M:dO 4 (z%16)<4294967296:=xC (by omega);exact⟨L,M,XO (n:=32) L M⟩);rw [DP]at A;generalize c ^^^l[k].toNat=z at D K A;obtain⟨F,G,H⟩:=m D;have I:=fun(t:TypeId) (p q:Operand)=>wh (E:=zB) (t:=t) (p:=p) (q:=q) (k:=.u32) rfl F G;have d:=Nat.mod_lt z (show 16>0 by decide);simp only [BZ,r7,r8,aq,hlt,seval];refine av (aB rfl) (q:=0) (ps:=[]) (by kernel_rfl) ?_;simp only [BZ,aV,ax,a9,cls,r0,r1,jW Tryz.t9.1 hlt,U,K,S.ld (b:=a) (o:=0) m0 rfl,seval];refine dM (aw S (i:=0) rfl t78.2.2.1 cE (Xb (lbt rfl)) ono) ?_;clear S;rintro h ⟨S,_⟩;simp only [LC]at S;simp only [BZ,seval];refine av (aB rfl) (q:=0) (ps:=[]) (by kernel_rfl) ?_;simp only [BZ,cls,r1,r2,b_shr4 (k:=.u32) (by decide),b_and15 D,qo (n:=16) d,J S.fr d,I,S.ld (b:=a) (o:=0) m0 rfl,seval];refine dM (aw S (i:=0) rfl t78.2.2.1 cE (Xb (lbt rfl)) ono) ?_;clear S;rintro h ⟨S,_⟩;simp only [LC]at S;simp only [BZ,seval];generalize(z>>>4) ^^^dO 4 (z%16)=V at S A H;obtain⟨F,G,_⟩:=m H;have I:=fun(t:TypeId) (p q:Operand)=>wh (E:=zB) (t:=t) (p:=p) (q:=q) (k:=.u32) rfl F G;have d:=Nat.mod_lt V (show 16>0 by decide);refine av (aB rfl) (q:=0) (ps:=[]) (by kernel_rfl) ?_;simp only [BZ,cls,r1,r2,b_shr4 (k:=.u32) (by decide),b_and15 H,qo (n:=16) d,J S.fr d,I,S.ld (b:=a) (o:=0) m0 rfl,seval];refine dM (aw S (i:=0) rfl t78.2.2.1 cE (Xb (lbt rfl)) ono) ?_;clear S;rintro h ⟨S,_⟩;simp only [LC]at S;rw [<-A]at S;simp only [BZ,r8,w,seval];exact T (k+1) _ _ (by omega) ⟨by omega,S,by simp [ao,r0,r1,r2,r7]⟩
   . have:k=l.length:=(by omega);subst this;rw [XE]at S;simp only [BZ,ab,r1,r7,r8,aq,hlt,S.ld (b:=a) (o:=0) m0 rfl,seval];exact S.fr
 . exact⟨Xg _,S,by simp [ao,ct,cP,ah]⟩
theorem zS(d:OZ a){l:Bs}(i:l.length<=1000000):cj zB 40 [sv l] a (.int .u32 (crc l:Nat)):=by
 have b:cj zB 99 [.int .u32 0,sv l] a (.int .u32 (crc l:Nat)):=by have S:=Si d;have j:unP .xor (.int .u32 0)=some (.int .u32 ((4294967295:Nat):Int)):=rfl;have m:=u_xorU (k:=.u32) rfl (ui (l:=l) (r:=4294967295) (by decide));refine erA (n:=11) (rs:=[.tmp 4]) e99 ?_;simp only [BZ,Xn,j,seval];refine step_ret (taker_ok (r:=4294967295) S.ok) ?_;intro v h ⟨g,b1,b3,e,n1,hne,R1,R3⟩;replace S:=S.call g;subst e;simp only [BZ,seval];refine step_ret (taker1_ok S.ok (by decide) i R1 R3 hne) ?_;rintro v h ⟨rfl,f⟩;have o:Gr a h:=(S.fr.trans f (fun c p=>.inr (by subst p;exact n1)):Mo NoM a h).gr;simp only [BZ,ab,m,seval];exact⟨rfl,o⟩
 have S:=Si d;refine erA (n:=5) (rs:=[.tmp 2]) e40 ?_;simp only [BZ,seval];refine ar (b) ?_;intro h g;replace S:=S.call g;simp only [BZ,ab,seval];exact S.gr
theorem crcS_bit(a:b<2):jX (r ^^^b)=if r%2≠b then(r>>>1) ^^^3988292384 else r>>>1:=by
 have c:(r ^^^b)>>>1=r>>>1:=by rw [Nat.shiftRight_xor_distrib,show b>>>1=0 by rw [XK];omega,Nat.xor_zero]
 have d:(r ^^^b)%2=(r%2) ^^^(b%2):=Nat.xor_mod_two_pow (n:=1);unfold jX;rw [c,d,YB a];have:b=0\/b=1:=by omega
 rcases Yw r with h|h<;>rcases this with rfl|rfl<;>simp [h]
theorem b_xorT{t:TypeId}{p:Operand}(h:x<4294967296):bQ E .xor t p q (.int .u32 (x:Int)) (.int .u32 3988292384)=some (.int .u32 ((x ^^^3988292384:Nat):Int)):=wh (k:=.u32) (y:=3988292384) rfl h (by decide)
theorem take02_ok(f:OZ a)(d:r<4294967296)(g:b<2):cj zB 132 [.int .u32 (r:Nat),.int .u32 (b:Nat)] a (.int .u32 (jX (r ^^^b):Nat)):=by
 have S:=Si f;have e:r&&& 1=r%2:=Yu r;have i:r>>>1<4294967296:=by rw [XK];omega
 have j:=fun(t:TypeId) (p q:Operand)=>b_xorT (E:=zB) (t:=t) (p:=p) (q:=q) i;rw [crcS_bit g];by_cases h:r%2=b
 . have c:((r%2:Nat):Int)=(b:Int):=(by omega);refine erA (n:=16) (rs:=[.tmp 4]) e132 ?_;simp only [BZ,ab,b_and1 d,e,c,At,seval];exact⟨by rw [if_neg (by omega)],S.gr⟩
 . have c: ¬((r%2:Nat):Int)=(b:Int):=(by omega);refine erA (n:=16) (rs:=[.tmp 4]) e132 ?_;simp only [BZ,ab,b_and1 d,e,c,At,j,seval];exact⟨by rw [if_pos h],S.gr⟩
def crcJ(r:Nat)(l:Bs)(j:Nat):Nat:=dO (j%8) (pu r (l.take (j/8)) ^^^((l.getD (j/8) 0).toNat%2 ^(j%8)))
theorem crcJ_lt(h:r<4294967296)(l:Bs)(j:Nat):crcJ r l j<4294967296:=by refine xC (XO (n:=32) (ui h) ?_);have:=pB (l.getD (j/8) 0);have:=Nat.mod_le (l.getD (j/8) 0).toNat (2 ^(j%8));omega
theorem crcJ_succ{l:Bs}(e:j<8*l.length):crcJ r l (j+1)=jX (crcJ r l j ^^^(l[j/8]'(by omega)).toNat/2 ^(j%8)%2):=by
 have a:j/8<l.length:=by omega
 have b:l.getD (j/8) 0=l[j/8]:=by simp [Xf,a]
 have c:=crcN_bit (j%8) (pu r (l.take (j/8))) l[j/8].toNat;unfold crcJ;rw [b,<-c];by_cases d:j%8=7
 . rw [show(j+1)%8=0 by omega,show(j+1)/8=j/8+1 by omega,d,Xa a,xQ];have:=pB l[j/8];simp only [Nat.pow_zero,Y8,Nat.xor_zero,seval];rw [YB (show l[j/8].toNat<2 ^8 by omega)];rfl
 . rw [show(j+1)%8=j%8+1 by omega,show(j+1)/8=j/8 by omega,b]
theorem crcJ_end(r:Nat)(l:Bs):crcJ r l (8*l.length)=pu r l:=by unfold crcJ;rw [show 8*l.length%8=0 by omega,show 8*l.length/8=l.length by omega,XE];simp [dO,Y8]
theorem b_andB{t:TypeId}{p:Operand}(h:x<256):bQ E .and t p q (.int .u8 (x:Int)) (.int .u8 1)=some (.int .u8 ((x%2:Nat):Int)):=by have:=ut (E:=E) (t:=t) (p:=p) (q:=q) (k:=.u8) (x:=x) (y:=1) rfl h (by decide);rw [show x&&& 1=x%2 from Yu x]at this;exact this
theorem uV(e:OZ a){l:Bs}(F:l.length<=1000000):cj zB 25 [sv l] a (.int .u32 (crc l:Nat)):=by
 have b:cj zB 77 [.int .u32 0,sv l] a (.int .u32 (crc l:Nat)):=by
  have S:=Si e;have m:unP .xor (.int .u32 0)=some (.int .u32 ((4294967295:Nat):Int)):=rfl;have o:=u_xorU (k:=.u32) rfl (ui (l:=l) (r:=4294967295) (by decide));have f:am .i64 (8*(l.length:Int))=((8*l.length:Nat):Int):=by rw [wrap64]<;>omega
  refine erA (n:=29) (rs:=[.tmp 4]) e77 ?_;simp only [BZ,Xn,m,seval];refine aD (fun(j:Nat) d h=>j<=8*l.length/\Gr a h/\d 1=sv l/\d 5=.int .u32 (crcJ 4294967295 l j:Nat)/\d 6=.int .i64 j) (fun j=>8*l.length-j) ?_ 0 _ _ ?_
  . clear S;intro j s d h ⟨hj,g,r1,r5,r6⟩;have w:am .i64 ((j:Int)+1)=((j+1:Nat):Int):=(by rw [wrap64]<;>omega);by_cases hlt:j<8*l.length
    . have c:(j:Int)<((8*l.length:Nat):Int):=(by omega);have u:j/8<l.length:=(by omega);have v:=pB l[j/8];have z:am .i64 ((j:Int).tdiv 8)=((j/8:Nat):Int):=(by rw [XU (by omega),show((j:Int)/8)=((j/8:Nat):Int) by omega,wrap64]<;>omega);have A:(j:Int).tmod 8=((j%8:Nat):Int):=(by rw [Yx (by omega)];exact(Int.natCast_emod _ _).symm);have B:=fun(t:TypeId) (p q:Operand)=>uo (E:=zB) (t:=t) (p:=p) (q:=q) (k:=.u8) (k':=.i64) (x:=l[j/8].toNat) (y:=j%8) (by show _<=8;omega);have C:l[j/8].toNat>>>(j%8)<256:=(by rw [XK];exact XN (YL _ _) v);have D:=bJ (k:=.u32) rfl (n:=l[j/8].toNat>>>(j%8)%2) (by simp only [pw];omega);have i:=crcJ_succ (r:=4294967295) hlt;rw [<-XK]at i;simp only [BZ,aV,ax,a9,r1,r5,r6,cw,f,c,iD (n:=8) (by decide),z,jW Tryz.t9.1 u,fS (n:=8) (by decide),A,B,b_andB C,D,seval];have S:=Si g.ok;refine ar (take02_ok S.ok (crcJ_lt (by decide) l j) (by omega)) ?_;intro h g;replace S:=S.call g;clear g;rw [<-i];simp only [BZ,r6,w,seval];exact s (j+1) _ _ (by omega) ⟨by omega,g.trans S.gr,by simp [ao,r1]⟩
    . have:j=8*l.length:=(by omega);subst this;rw [crcJ_end]at r5;simp only [BZ,ab,r1,r5,r6,cw,f,aq,hlt,o,seval];exact⟨rfl,g⟩
  . exact⟨Xg _,S.gr,by simp [ao,ct,cP,crcJ,dO,pu,Y8]⟩
 have S:=Si e;refine erA (n:=5) (rs:=[.tmp 2]) e25 ?_;simp only [BZ,seval];refine ar (b) ?_;intro h g;replace S:=S.call g;simp only [BZ,ab,seval];exact S.gr
theorem putN_snoc(k n:Nat):aY (k+1) n=aY k n++[UInt8.ofNat (n/256 ^k)]:=by
 refine List.ext_getElem? fun i=>?_;rcases Nat.lt_trichotomy i k with h|h|h
 . rw [xc (by omega),XL (by rw [bq];exact h),xc h]
 . subst h;rw [xc (by omega),XH (by rw [bq];omega),bq];simp
 . rw [Ya (by rw [bq];omega),Ya (by simp [bq];omega)]
theorem fq{c:Hp}(f:OZ c)(i:n<18446744073709551616)(x:many<=8):cj zB 24 [.int .u64 (n:Nat),.int .i64 (many:Nat)] c (sv (aY many n)):=by
 have S:=Si f;refine erA (n:=22) (rs:=[.tmp 4]) e24 ?_;simp only [BZ];refine aD (fun(j:Nat) a h=>j<=many/\Gr c h/\a 0=.int .u64 (n/256 ^j:Nat)/\a 1=.int .i64 (many:Nat)/\a 5=sv (aY j n)/\a 6=.int .i64 j) (fun j=>many-j) ?_ 0 _ _ ?_
 . clear S;intro j p a h ⟨hj,g,r0,r1,r5,r6⟩;have w:am .i64 ((j:Int)+1)=((j+1:Nat):Int):=(by rw [wrap64]<;>omega);by_cases hlt:j<many
   . have q:n/256 ^j<18446744073709551616:=XN (YL _ _) i;have r:((n/256 ^j:Nat):Int).tmod 256=((n/256 ^j%256:Nat):Int):=(by rw [Yx (X5 _)];exact(Int.natCast_emod _ _).symm);have s:=bJ (k:=.u8) rfl (n:=n/256 ^j%256) (by simp only [pw];omega);have t:am .u64 (((n/256 ^j:Nat):Int).tdiv 256)=((n/256 ^(j+1):Nat):Int):=(by rw [XU (X5 _),Nat.pow_succ,<-Nat.div_div_eq_div_mul];generalize n/256 ^j=z at q;rw [show((z:Int)/256)=((z/256:Nat):Int) by omega,bJ rfl];simp only [pw];omega);have S:=Si g.ok;have u:=bq j n;simp only [BZ,aV,ax,a9,r0,r1,r5,r6,aq,hlt,fS (n:=256) (by decide),r,s,seval];refine ag (bD (by exact t22.1) (by exact Yt) (by decide) (by rfl)) S ?_;clear S;intro h d S e;simp only [LC,bA,bN,ae,Xs,Xd,Xr,Xy,seval]at S;have v:BySl h (.slice (some ⟨d,0,none⟩) 1 1) [UInt8.ofNat (n/256 ^j)]:=.inr ⟨d,0,none,1,rfl,XB _,by
      rw [byF];have:=S.lds (b:=d) (o:=0) (n:=1*1) m0 (lbt rfl);rw [show([Value.int .u8 ((n/256 ^j%256:Nat):Int)].drop 0).take (1*1)=bI [UInt8.ofNat (n/256 ^j)] by simp [bI]]at this;exact this⟩
     simp only [BZ,aV,ax,r0,r6,uU v,ec (l:=aY j n) (m:=[UInt8.ofNat (n/256 ^j)]) (by rw [u];simp;omega),<-putN_snoc,iD (n:=256) (by decide),t,w,seval];exact p (j+1) _ _ (by omega) ⟨by omega,g.trans S.gr,by simp [ao,r1]⟩
   . have:j=many:=(by omega);subst this;simp only [BZ,ab,r1,r5,r6,aq,hlt,seval];exact g
 . exact⟨Xg _,S.gr,by simp [ao,ct],by simp [ao,ct,cP],by simp [ao,aY];rfl,by simp [ao]⟩
def rfC(s:Bs)(a:Nat)(F:Int×Int×Int×Int):List Value:=[sv s,.int .i64 (a:Nat),.int .i64 F.1,.int .i64 F.2.1,.int .i64 F.2.2.1,.int .i64 F.2.2.2]
theorem vH{w:Hp}(S:St M w hq L G){g:Nat}{a:Nat}{F:Int×Int×Int×Int}(j:L[i]? =some (g,.row (rfC s a F) 1))(hf:bad= !decide (F.1=0))(D:a<=s.length)(hs:s.length<=1000000)(E:n<=10000000):Ret zB 144 [ptrTo g,.int .i64 (n:Nat)] hq fun r h'=>r=sv (aT s a bad n).1/\ ∃F':Int×Int×Int×Int,(aT s a bad n).2.2= !decide (F'.1=0)/\St M w h' (L.set i (g,.row (rfC s (aT s a bad n).2.1 F') 1)) G:=by
 have H:=S.ok;have R:=S.row (b:=g) (Ye j);have m:=R.load1 (o:=0) rfl;have p:=R.load1 (o:=1) rfl;have u:=R.load1 (o:=2) rfl;by_cases c:F.1=0
 . have d:bad=false:=(by rw [hf,decide_eq_true c];rfl);subst d;have y: ¬((n:Int)<0):=(by omega);have z:am .i64 ((s.length:Int)-(a:Int))=((s.length-a:Nat):Int):=(by rw [wrap64]<;>omega);have A:am .i64 ((a:Int)+(n:Int))=((a+n:Nat):Int):=(by rw [wrap64]<;>omega);have B:am .i64 (((a+n:Nat):Int)-(n:Int))=((a:Nat):Int):=(by rw [wrap64]<;>omega);by_cases t:s.length<a+n
   . have v:((s.length-a:Nat):Int)<(n:Int):=(by omega);refine erA (n:=65) (rs:=[.tmp 4]) e144 ?_;simp only [BZ,u,c,y,seval];refine av (aB rfl) (q:=0) (ps:=[]) (by kernel_rfl) ?_;simp only [BZ,cls,m,p,cw,z,v,seval];refine au (S.store (i:=i) j t102.2.1 (by intro x e;cases e) rfl rfl (lbt rfl) ono) ?_;clear S;rintro h ⟨S,_⟩;simp only [BZ,ab,seval];exact⟨by unfold aT;rw [if_pos (.inr t)];rfl,(3,0,a,0),by unfold aT;rw [if_pos (.inr t)];rfl,by unfold aT;rw [if_pos (.inr t)];exact S⟩
   . have v: ¬((s.length-a:Nat):Int)<(n:Int):=(by omega);have C:=Dx (l:=s) (k:=.i64) (k':=.i64) (a:=a) (b:=a+n) Tryz.t9.1 (by omega) (by omega);have f: ¬((false:Bool)=true\/s.length<a+n):=(by rintro(h|h);cases h;exact t h);have e:(s.take (a+n)).drop a=(s.drop a).take n:=(by rw [YS];congr 1;omega);refine erA (n:=65) (rs:=[.tmp 4]) e144 ?_;simp only [BZ,u,c,y,seval];refine av (aB rfl) (q:=0) (ps:=[]) (by kernel_rfl) ?_;simp only [BZ,cls,m,p,cw,z,v,A,seval];refine au (aw S (i:=i) j Tryz.t3.2.2.1 cE (Xb (lbt rfl)) ono) ?_;clear S;rintro h ⟨S,_⟩;have R:=S.row (b:=g) (Ye (eu j));have m:=R.load1 (o:=0) rfl;have p:=R.load1 (o:=1) rfl;simp only [BZ];refine av (aB rfl) (q:=0) (ps:=[]) (by kernel_rfl) ?_;simp only [BZ,cls,ab,X6,Yi,m,p,B,C,seval];exact⟨by unfold aT;rw [if_neg f,e],F,by unfold aT;rw [if_neg f,decide_eq_true c];rfl,by unfold aT;rw [if_neg f];exact S⟩
 . have d:bad=true:=(by rw [hf,decide_eq_false c];rfl);subst d;refine erA (n:=65) (rs:=[.tmp 4]) e144 ?_;simp only [BZ,ab,u,c,seval];exact⟨by unfold aT;rw [if_pos (.inl rfl)];rfl,F,by unfold aT;rw [if_pos (.inl rfl),decide_eq_false c];rfl,by unfold aT;rw [if_pos (.inl rfl),set_self j];exact S⟩
theorem p9{e:Hp}(S:St M e hq L G){a:Nat}{F:Int×Int×Int×Int}(m:L[i]? =some (c,.row (rfC s a F) 1))(hf:bad= !decide (F.1=0))(o:a<=s.length)(hs:s.length<=1000000)(B:many<=8):Ret zB 145 [ptrTo c,.int .i64 (many:Nat)] hq fun r h'=>r=.int .u64 (aS (aT s a bad many).1:Nat)/\ ∃F':Int×Int×Int×Int,(aT s a bad many).2.2= !decide (F'.1=0)/\St M e h' (L.set i (c,.row (rfC s (aT s a bad many).2.1 F') 1)) G:=by
 have C:=S.ok;have p:=jc (s:=s) (a:=a) (n:=many) (bad:=bad);refine erA (n:=26) (rs:=[.tmp 4]) e145 ?_;simp only [BZ,seval];refine step_ret (vH (n:=many) S m hf o hs (by omega)) ?_;rintro r h ⟨rfl,P⟩;generalize(aT s a bad many).1=l at p;have D:l.length<=8:=by omega
 have q:am .i64 ((l.length:Int)-1)=(l.length:Int)-1:=by rw [wrap64]<;>omega
 simp only [BZ,cw,q,seval];refine aD (fun(k:Nat) b h'=>k<=l.length/\h'=h/\b 5=sv l/\b 6=.int .u64 (aS (l.drop k):Nat)/\b 7=.int .i64 ((k:Int)-1)) (fun k=>k) ?_ l.length _ _ ?_
 . rintro k t b h' ⟨E,rfl,f,d,r7⟩;by_cases hlt:0<k
   . obtain⟨j,rfl⟩: ∃j,k=j+1:=⟨k-1,by omega⟩;have u:((j+1:Nat):Int)-1=(j:Int):=(by omega);rw [u]at r7;have g:j<l.length:=(by omega);have H:=pB l[j];have v:(0:Int)<=(j:Int):=(by omega);have w:am .i64 ((j:Int)-1)=(j:Int)-1:=(by rw [wrap64]<;>omega);have I:=kp (l.drop (j+1));have x:256 ^(l.drop (j+1)).length<=256 ^7:=Y0 (by decide) (by rw [List.length_drop];omega);simp only [seval]at x;have J:aS (l.drop j)=256*aS (l.drop (j+1))+l[j].toNat:=(by rw [XV g];simp only [aS];omega);have y:am .u64 (256*((aS (l.drop (j+1)):Nat):Int))=((256*aS (l.drop (j+1)):Nat):Int):=(by rw [show 256*((aS (l.drop (j+1)):Nat):Int)=((256*aS (l.drop (j+1)):Nat):Int) by omega,bJ rfl];simp only [pw];omega);have z:=bJ (k:=.u64) rfl (n:=l[j].toNat) (by simp only [pw];omega);have A:am .u64 (((256*aS (l.drop (j+1)):Nat):Int)+(l[j].toNat:Int))=((aS (l.drop j):Nat):Int):=(by rw [show((256*aS (l.drop (j+1)):Nat):Int)+(l[j].toNat:Int)=((aS (l.drop j):Nat):Int) by omega,bJ rfl];simp only [pw];omega);simp only [BZ,aV,ax,a9,f,d,r7,v,y,jW Tryz.t9.1 g,z,A,w,seval];exact t j _ _ (by omega) ⟨by omega,rfl,by simp [ao,f]⟩
   . have:k=0:=(by omega);subst this;rw [Xm]at d;have K: ¬(0:Int)<=((0:Nat):Int)-1:=(by omega);simp only [BZ,ab,Xn,d,r7,seval];exact P
 . exact⟨XB _,rfl,by simp [ao,aS]⟩
def encS(x:Sec):List Value:=[.int .i64 (x.1:Nat),sv x.2]
theorem ck(x:Sec):(encS x).length=2:=rfl
theorem iQ(h:n<18446744073709551616):u64 (n:Int)=n:=by unfold u64;omega
def iJ(l:List Sec)(n:Nat):Bs:=dS++(aY 1 n++l.flatMap entB)
theorem encode_ok{s:Hp}(N:OZ s){l:List Sec}(C:aH s 2 encS v l)(hl:l.length<=16)(O: ∀x∈l,x.1<256)(hb:(l.flatMap Yk).length<=100000):Ret zB 12 [v] s fun r h'=>Gr s h'/\r=.tuple #[sv (qW l),.int .i64 0]:=by
 have S:=Si N;have P: ¬((16:Int)<(l.length:Int)):=by omega
 refine erA (n:=70) (rs:=[.tmp 2,.tmp 3]) e12 ?_;simp only [BZ,C.lenq,P,seval];refine step_ret (qF S) ?_;rintro v1 h ⟨D,rfl,S⟩;simp only [BZ];refine step_ret (qF S) ?_;rintro v2 h ⟨G,rfl,S⟩;simp only [BZ,seval];refine step_ret (Ck (l:=[]) (m:=dS) S (i:=1) (j:=1) rfl rfl (by decide)) ?_;rintro _ h ⟨p,S⟩;simp only [LC]at S;have Q:=bJ (k:=.u8) rfl (n:=l.length) (by simp only [pw];omega);simp only [BZ,aV,ax,a9,C.lenq,Q,seval];refine ag (bD (by exact t22.1) (by exact Yt) (by decide) (by rfl)) S ?_;clear S;intro h E S d;simp only [LC,bA,bN,ae,Xs,Xd,Xr,Xy,seval]at S;obtain⟨S,e,f⟩:=S.bsl (kd:=.u8) (xs:=[(l.length:Int)]);simp only [BZ,seval];refine step_ret (zC S (i:=1) (j:=1) rfl rfl e f (by simp [dS])) ?_;rintro _ h ⟨p,S⟩;simp only [LC,zO,Xi]at S;rw [iQ (by omega),show dS++aY 1 l.length=iJ (l.take 0) l.length by simp [iJ]]at S;simp only [BZ,C.lenq,seval];refine aD (fun(k:Nat) t h=>k<=l.length/\ ∃p y,St NoM s h [(G,.row [y] 1),(D,.row [p] 1)] [(y,1,bI ((l.take k).flatMap Yk)),(p,1,bI (iJ (l.take k) l.length))]/\t 4=ptrTo D/\t 5=ptrTo G/\t 21=v/\t 22=.int .i64 l.length/\t 23=.int .i64 k) (fun k=>l.length-k) ?_ 0 _ _ ?_
 . clear S e f;intro k R t h ⟨hkl,p,y,S,r4,r5,r21,r22,r23⟩;have w:am .i64 ((k:Int)+1)=((k+1:Nat):Int):=(by rw [wrap64]<;>omega);by_cases hlt:k<l.length
   . obtain⟨c,o,z,A⟩:=(C.gr S.gr).ix (kd:=.i64) ck hlt;have B:=O l[k] (Xu hlt);have H:l.take (k+1)=l.take k++[l[k]]:=Xa hlt;have F:((l.take (k+1)).flatMap Yk).length<=(l.flatMap Yk).length:=by
      conv=>rhs;rw [<-YT (k+1) l,Xz,Xh]
      omega
     rw [H,Xz,Xh]at F;simp only [zO,Xi,XS]at F;have lh:(iJ (l.take k) l.length).length<=300:=(by have:(l.take k).length<=16:=(by rw [XC];omega);simp only [iJ,Xh,bq,wD,dS,XX,Yj];omega);have I:iJ (l.take (k+1)) l.length=iJ (l.take k) l.length++entB l[k]:=(by unfold iJ;rw [H,Xz];simp);have J:(l.take (k+1)).flatMap Yk=(l.take k).flatMap Yk++l[k].2:=(by rw [H,Xz];simp);generalize l[k]=x at A B I J F;obtain⟨u,a⟩:=x;simp only []at B I J F;have T: ¬((u:Int)<0):=(by omega);have U: ¬((255:Int)<(u:Int)):=(by omega);have V:=bJ (k:=.u8) rfl (n:=u) (by simp only [pw];omega);have W:=bJ (k:=.u64) rfl (n:=a.length) (by simp only [pw];omega);simp only [BZ,r21,r22,r23,aq,hlt,z,A,encS,seval];refine ag ay S ?_;clear S;intro h q S L;simp only [BZ,seval];refine au (stA S (i:=0) t13.2.1) ?_;clear S;rintro h ⟨S,X⟩;clear X;simp only [LC,ae,lay,Xo,Xp,seval]at S;simp only [BZ,aV,ax,a9,r4,T,U,V,S.ld (b:=q) (o:=0) m0 rfl,S.ld (b:=q) (o:=1) m0 rfl,seval];refine ag (bD (by exact t22.1) (by exact Yt) (by decide) (by rfl)) S ?_;clear S;intro h E S d;simp only [LC,bA,bN,ae,Xs,Xd,Xr,Xy,seval]at S;obtain⟨S,e,f⟩:=S.bsl (kd:=.u8) (xs:=[(u:Int)]);simp only [BZ,seval];refine step_ret (zC S (i:=2) (j:=1) rfl rfl e f (by simp;omega)) ?_;clear e f S;rintro _ h ⟨p,S⟩;simp only [LC,zO,Xi]at S;rw [iQ (by omega)]at S;simp only [BZ,aV,ax,a9,r4,cw,W,S.ld (b:=q) (o:=0) m0 rfl,S.ld (b:=q) (o:=1) m0 rfl,seval];refine ag (bD (by exact t173.1) (by exact e74E) (by decide) (by rfl)) S ?_;clear S;intro h E S d;simp only [LC,bA,bN,ae,Xs,Xd,Xr,Xy,seval]at S;obtain⟨S,e,f⟩:=S.bsl (kd:=.u64) (xs:=[(a.length:Int)]);simp only [BZ,seval];refine step_ret (wU64_ok S (i:=2) (j:=1) rfl rfl e f (fun x M=>by simp only [XM]at M;rw [M,iQ (by omega)]) (by simp [bq];omega)) ?_;clear e f S;rintro _ h ⟨p,S⟩;simp only [LC,zO,Xi]at S;rw [iQ (by omega)]at S;have Y:=vu a;simp only [BZ,r4,S.ld (b:=q) (o:=0) m0 rfl,S.ld (b:=q) (o:=1) m0 rfl,seval];refine ar (zS S.ok (l:=a) (by omega)) ?_;intro h g;replace S:=S.call g;simp only [BZ,seval];refine ag (bD (by exact t175.1) (by exact YM) (by decide) (by rfl)) S ?_;clear S;intro h E S d;simp only [LC,bA,bN,ae,Xs,Xd,Xr,Xy,seval]at S;obtain⟨S,e,f⟩:=S.bsl (kd:=.u32) (xs:=[((crc a:Nat):Int)]);simp only [BZ,seval];refine step_ret (ur S (i:=2) (j:=1) rfl rfl e f (by simp [bq];omega)) ?_;clear e f S;rintro _ h ⟨p,S⟩;simp only [LC,zO,Xi]at S;rw [iQ (by omega),XF,XF,show aY 1 u++(aY 8 a.length++aY 4 (crc a))=entB (u,a)from rfl,<-I]at S;simp only [BZ,r5,S.ld (b:=q) (o:=0) m0 rfl,S.ld (b:=q) (o:=1) m0 rfl,seval];refine step_ret (Ck (m:=a) S (i:=1) (j:=0) rfl rfl (by omega)) ?_;clear S;rintro _ h ⟨y,S⟩;simp only [LC]at S;rw [<-J]at S;simp only [BZ,r23,w,seval];exact R (k+1) _ _ (by omega) ⟨by omega,p,y,S.drop1,by simp [ao,r4,r5,r21,r22]⟩
   . have:k=l.length:=(by omega);subst this;rw [XE]at S;have Z:iJ l l.length=i9 l:=rfl;rw [Z]at S;have Y:=vu (i9 l);have K:=wG l;have g4:=(S.gown _ m1).1;simp only [BZ,r4,r22,r23,aq,hlt,seval];refine ar (nj S.ok (S.ld (b:=D) (o:=0) m1 rfl) g4) ?_;intro h g;replace S:=S.call g;simp only [BZ,seval];refine ar (zS S.ok (l:=i9 l) (by omega)) ?_;intro h g;replace S:=S.call g;simp only [BZ,seval];refine ag (bD (by exact t175.1) (by exact YM) (by decide) (by rfl)) S ?_;clear S;intro h E S d;simp only [LC,bA,bN,ae,Xs,Xd,Xr,Xy,seval]at S;obtain⟨S,e,f⟩:=S.bsl (kd:=.u32) (xs:=[((crc (i9 l):Nat):Int)]);simp only [BZ,seval];refine step_ret (ur S (i:=1) (j:=1) rfl rfl e f (by simp;omega)) ?_;clear e f g4 S;rintro _ h ⟨p,S⟩;simp only [LC,zO,Xi]at S;rw [iQ (by omega)]at S;have g4:=(S.gown _ m1).1;simp only [BZ,r4,seval];refine ar (nj S.ok (S.ld (b:=D) (o:=0) m1 rfl) g4) ?_;intro h g;replace S:=S.call g;have g5:=(S.gown _ m0).1;simp only [BZ,r5,seval];refine ar (nj S.ok (S.ld (b:=G) (o:=0) m0 rfl) g5) ?_;intro h g;replace S:=S.call g;simp only [BZ,ab,ec (l:=i9 l++aY 4 (crc (i9 l))) (m:=l.flatMap Yk) (by rw [Xh,bq,K];omega),seval];exact⟨S.gr,by unfold qW;rw [XF]⟩
 . exact⟨Xg _,_,_,S,by simp [ao,ah]⟩
theorem jG{l:Bs}(h:l.length<=k):aS l<256 ^k:=Xq (kp l) (Y0 (by decide) h)
def cJ(s:Bs)(j:Nat):Ent:=(aS ((s.drop (7+13*j)).take 1),aS ((s.drop (8+13*j)).take 8),aS ((s.drop (16+13*j)).take 4))
theorem Em(n:Nat): ∀(s:Bs) (m:Nat),s9 n (s.drop (7+13*m))=(zM n).map fun j=>cJ s (m+j):=by
 induction n with
 |zero=>intro s m;rfl| succ n a=>
   intro s m;rw [s9,XR,show 7+13*m+13=7+13*(m+1) by omega,a,List.range_succ_eq_map,Yg,Yb];congr 1
   . unfold entD cJ;rw [XR,XR,show 7+13*m+1=8+13*m by omega,show 7+13*m+9=16+13*m by omega];rfl
   . refine XJ fun j _=>?_;show cJ s (m+1+j)=cJ s (m+(j+1));rw [Y1,Y4 1 j]
def esF(s:Bs):List Ent:=(zM (bC s)).map (cJ s)
theorem yZ(s:Bs):s9 (bC s) (s.drop 7)=esF s:=by have:=Em (bC s) s 0;simpa [esF]using this
theorem tX(s:Bs):(esF s).length=bC s:=by simp [esF]
theorem esF_at(h:j<bC s):(esF s)[j]? =some (cJ s j):=by simp [esF,XD,h]
def dg(s:Bs)(k:Nat):Nat:=(((esF s).take k).map (·.2.1)).sum
theorem rq(h:k<bC s):dg s (k+1)=dg s k+(cJ s k).2.1:=by
 unfold dg;have a:k<(esF s).length:=by rw [tX];exact h
 have e:(esF s)[k]=cJ s k:=by have:=esF_at h;rw [Xj a]at this;exact Option.some.inj this
 rw [Xa a,XQ,List.sum_append,e];simp
theorem tC(s:Bs):dg s (bC s)=((esF s).map (·.2.1)).sum:=by unfold dg;rw [Xx (by rw [tX];omega)]
theorem DV(l:List Nat)(k:Nat):(l.take k).sum<=l.sum:=by
 induction l generalizing k with
 |nil=>simp| cons a l b=>
   cases k with
   |zero=>simp|succ k=>have:=b k;simp only [XA,List.sum_cons];omega
theorem yk(s:Bs)(k:Nat):dg s k<=dg s (bC s):=by rw [tC];unfold dg;rw [List.map_take];exact DV _ _
theorem pq(h:jJ s):s.take 6=dS/\bC s<=16/\11+13*bC s<=s.length/\aS ((s.drop (7+13*bC s)).take 4)=crc (s.take (7+13*bC s))/\dg s (bC s)=s.length-(11+13*bC s):=by obtain⟨a,_,c,d,e,f⟩:=h;rw [yZ]at f;exact⟨a,c,d,e,by rw [tC];exact f⟩
def i6(s:Bs)(k:Nat):Nat:=11+13*bC s+dg s k
theorem offF_le(h:jJ s)(k:Nat):i6 s k<=s.length:=by obtain⟨_,_,c,_,e⟩:=pq h;have:=yk s k;unfold i6;omega
theorem wR(a:k<bC s):i6 s (k+1)=i6 s k+(cJ s k).2.1:=by unfold i6;rw [rq a];omega
def fh(s:Bs)(k:Nat):Sec:=((cJ s k).1,(s.drop (i6 s k)).take (cJ s k).2.1)
def bodF(s:Bs):Option (List Sec):=po (esF s) (s.drop (i6 s 0))
theorem bodF_go: ∀(n k:Nat),k+n=bC s->((∀j,k<=j->j<bC s->crc (fh s j).2=(cJ s j).2.2)->po ((esF s).drop k) (s.drop (i6 s k))=some ((List.range' k n).map (fh s)))/\(∀j,k<=j->j<bC s->crc (fh s j).2≠(cJ s j).2.2->po ((esF s).drop k) (s.drop (i6 s k))=none):=by
 intro n
 induction n with
 | zero=>
   intro k m;refine⟨fun _=>?_,fun j c b=>by omega⟩;rw [Ym (by rw [tX];omega)];rfl
 | succ n o=>
   intro k m;have hlt:k<bC s:=(by omega);have d:k<(esF s).length:=(by rw [tX];exact hlt);have e:(esF s)[k]=cJ s k:=(by have:=esF_at hlt;rw [Xj d]at this;exact Option.some.inj this);rw [XV d,e];obtain⟨f,g⟩:=o (k+1) (by omega);rw [wR hlt]at f g;have u: ∀l,po (cJ s k::l) (s.drop (i6 s k))=if crc (fh s k).2=(cJ s k).2.2 then(po l (s.drop (i6 s k+(cJ s k).2.1))).map (fh s k:: ·)else none:=fun _=>by rw [<-XR];rfl
   rw [u];refine⟨fun h=>?_,fun j c b i=>?_⟩
   . rw [if_pos (h k (XB _) hlt),f (fun j c b=>h j (by omega) b),List.range'_succ];rfl
   . by_cases a:crc (fh s k).2=(cJ s k).2.2
     . rw [if_pos a,g j (by rcases Yl c with h|rfl;exact h;exact absurd a i) b i];rfl
     . rw [if_neg a]
theorem bodF_ok(h: ∀j,j<bC s->crc (fh s j).2=(cJ s j).2.2):bodF s=some ((zM (bC s)).map (fh s)):=by have:=bodF_go (s:=s) (bC s) 0 (Xd _);rw [Xm,<-List.range_eq_range']at this;exact this.1 fun j _ a=>h j a
theorem bodF_no(a:k<bC s)(h:crc (fh s k).2≠(cJ s k).2.2):bodF s=none:=by have:=bodF_go (s:=s) (bC s) 0 (Xd _);rw [Xm]at this;exact this.2 k (Xg _) a h
theorem wU(h:jJ s):kU s=match bodF s with|some l=>.ok l|none=>.error true:=by unfold kU;rw [if_pos h,yZ,show bodF s=po (esF s) (s.drop (11+13*bC s)) by unfold bodF i6 dg;simp];cases po (esF s) (s.drop (11+13*bC s))<;>rfl
theorem c6{a:Nat}(h:a+n<=s.length):aT s a false n=((s.drop a).take n,a+n,false):=by unfold aT;rw [if_neg];rintro(h|h);cases h;omega
theorem jN{a:Nat}(h:bad=true\/s.length<a+n):aT s a bad n=([],a,true):=by unfold aT;rw [if_pos h]
def tkS(s:Bs)(n:Nat)(p:Nat×Bool):Bs×Nat×Bool:=aT s p.1 p.2 n
def rdE(s:Bs)(p:Nat×Bool):Ent×(Nat×Bool):=((aS (tkS s 1 p).1,aS (tkS s 8 (tkS s 1 p).2).1,aS (tkS s 4 (tkS s 8 (tkS s 1 p).2).2).1),(tkS s 4 (tkS s 8 (tkS s 1 p).2).2).2)
def stE(s:Bs):Nat->Nat×Bool
 |0=>(aT s 6 false 1).2|k+1=>(rdE s (stE s k)).2
def enG(s:Bs)(k:Nat):Ent:=(rdE s (stE s k)).1
theorem enG_lt(s:Bs)(k:Nat):(enG s k).1<256/\(enG s k).2.1<18446744073709551616/\(enG s k).2.2<4294967296:=
 ⟨jG (k:=1) jc,jG (k:=8) jc,jG (k:=4) jc⟩
theorem zH(h:6<=s.length)(k:Nat):(stE s k).1<=s.length:=by
 induction k with
 |zero=>exact mJ h|succ k a=>exact mJ (mJ (mJ a))
theorem many_tk(s:Bs):aS (aT s 6 false 1).1=bC s:=by
 by_cases h:6+1<=s.length
 . rw [c6 h];rfl
 . rw [jN (.inr (by omega))];unfold bC;rw [Ym (by omega)];rfl
theorem vP: ∀k,7+13*k<=s.length->stE s k=(7+13*k,false):=by
 intro k
 induction k with
 |zero=>intro h;unfold stE;rw [c6 (by omega)]| succ k a=>intro h;rw [stE,a (by omega)];simp only [rdE,tkS];rw [c6 (by omega),c6 (by simp only [];omega),c6 (by simp only [];omega)];simp only [];rw [show 7+13*k+1+8+4=7+13*(k+1) by omega]
theorem enG_eq(h:7+13*(k+1)<=s.length):enG s k=cJ s k:=by unfold enG;rw [vP k (by omega)];simp only [rdE,tkS];rw [c6 (by omega),c6 (by simp only [];omega),c6 (by simp only [];omega)];simp only [cJ];rw [show 7+13*k+1=8+13*k by omega,show 8+13*k+8=16+13*k by omega]
theorem tk_bad{a:Nat}:(aT s a true n).2.2=true:=by rw [jN (.inl rfl)]
theorem stE_bad: ∀k,s.length<7+13*k->(stE s k).2=true:=by
 intro k
 induction k with
 |zero=>intro h;unfold stE;rw [jN (.inr (by omega))]| succ k b=>
   intro h;have a: ∀n (p:Nat×Bool),p.2=true->(tkS s n p).2.2=true:=fun n p c=>(by unfold tkS;rw [c];exact tk_bad);by_cases d:s.length<7+13*k
   . exact a _ _ (a _ _ (a _ _ (b d)))
   . rw [stE,vP k (by omega)];show(tkS s 4 (tkS s 8 (tkS s 1 (7+13*k,false)).2).2).2.2=true;by_cases e:s.length<7+13*k+1
     . exact a _ _ (a _ _ (by unfold tkS;rw [jN (.inr e)]))
     . rw [show tkS s 1 (7+13*k,false)=_ from c6 (by omega)];by_cases f:s.length<7+13*k+1+8
       . exact a _ _ (by unfold tkS;rw [jN (.inr f)])
       . rw [show tkS s 8 (7+13*k+1,false)=_ from c6 (by omega)];unfold tkS;rw [jN (.inr (by simp only [];omega))]
theorem Ci(h:s.length<11+13*n):(aT s (stE s n).1 (stE s n).2 4).2.2=true:=by
 by_cases a:s.length<7+13*n
 . rw [stE_bad n a];exact tk_bad
 . rw [vP n (by omega),jN (.inr (by simp only [];omega))]
theorem pU(b:OZ a):cj zB 154 [.bool true,.int .i64 (c:Int)] a (.tuple #[]):=by have S:=Si b;refine erA (n:=8) (rs:=[]) e154 ?_;simp only [BZ,ab,seval];exact S.gr
theorem oe(b:OZ a):dE zB 154 [.bool false,.int .i64 (c:Int)] none a fun o rc h'=>o=.pan (.iface 29 (.int .i64 (c:Int)))/\rc=none/\Gr a h':=by have S:=Si b;refine enA (n:=8) (rs:=[]) e154 ?_;simp only [BZ,seval];exact cg (cy ⟨rfl,rfl,S.gr⟩)
theorem rErr_ok{b:Hp}(d:OZ b){a:Nat}(R:Row b c (rdC s a (.pointer none)) 1):cj zB 155 [ptrTo c] b .nilIface:=by have S:=Si d;refine erA (n:=20) (rs:=[.tmp 2]) e155 ?_;simp only [BZ,ab,R.load1 (o:=2) rfl,seval];exact S.gr
theorem rErrB_ok{b:Hp}(g:OZ b){a:Nat}{l:List Value}(R:Row b c (rdC s a (ptrTo d)) 1)(F:Row b d l 1)(j:Int4 l):Ret zB 155 [ptrTo c] b fun r h'=>Gr b h'/\ ∃t v,r=.iface t v:=by have S:=Si g;obtain⟨x,y,z,w,rfl⟩:=j;have k:b.load c 2 1=some [ptrTo d]:=R.load1 (o:=2) rfl;have e:=F.load (o:=0) (n:=4) (XB 4);simp only [Xm,XA,XI]at e;refine erA (n:=20) (rs:=[.tmp 2]) e155 ?_;simp only [BZ,k,e,seval];refine ag ay S ?_;clear S;intro h p S f;simp only [BZ,seval];refine au (stA S (i:=0) t102.2.1) ?_;clear S;rintro h ⟨S,m⟩;clear m;simp only [LC,ae,lay,Xo,Xp,seval]at S;simp only [BZ,ab,seval];exact⟨S.gr,_,_,rfl⟩
def FlF(f:Value)(bad:Bool)(F:List (Nat×Ob)):Prop:=if bad=true then∃b l,f=ptrTo b/\Int4 l/\F=[(b,.row l 1)]else f=.pointer none/\F=[]
theorem FlF.rd{f:Value}{F:List (Nat×Ob)}(h:FlF f bad F):RdF f bad:=by
 cases bad with
 |true=>obtain⟨b,l,rfl,_⟩:=h;exact⟨_,rfl⟩
 |false=>exact h.1
theorem St.perm{L':List (Nat×Ob)}(S:St M a h L G)(p:L'.Perm L):St M a h L' G:=
 ⟨S.fr,fun x b=>S.own x (p.mem_iff.1 b),S.gown,(((p.map Y9).append_right (G.filterMap gy)).nodup_iff).2 S.apart⟩
theorem St.adv{d:Hp}{A F:List (Nat×Ob)}{f j:Value}{a:Bool}(S:St M d h (A++(c,o)::(F++L)) G)(n:FlF f bad F)(p:Mo (· =c) h h')(q:Has h' c o')(O:RdO h h' f bad j a): ∃F',FlF j a F'/\St M d h' (A++(c,o')::(F'++L)) G:=by
 have e:(A++(c,o)::(F++L))[A.length]? =some (c,o):=by simp
 have g:=S.call1 e p q;rw [YU _ _ (XB _),YC,Xt]at g;obtain⟨r,⟨rfl,rfl⟩|⟨b,l,rfl,s,t,R⟩⟩:=O
 . exact⟨F,n,g⟩
 . have i:a=true:=by
    cases a with
    |true=>rfl|false=>cases r
   subst i;have k: ∀o,(A++(c,o)::L).Sublist (A++(c,o)::(F++L)):=fun o=>(List.Sublist.refl A).append ((YA F L).cons_cons _);have u:St M d h' (A++(c,o')::L) G:=g.sub (k o') (List.Sublist.refl _);have v:=u.push (b:=b) (o:=.row l 1) (.inl (Xe S.fr.n s)) R (fun m=>by
    have w:keys (A++(c,o')::L) G=keys (A++(c,o)::L) G:=(by simp [keys]);rw [w]at m;have:=(S.sub (k o) (List.Sublist.refl _)).key_lt m;omega)
   exact⟨[(b,.row l 1)],⟨b,l,rfl,t,rfl⟩,v.perm ((List.Perm.append_left A (List.Perm.swap _ _ _)).trans YD)⟩
theorem EO{c:Hp}(S:St M c hq L G):Ret zB 151 [ptrTo b] hq fun r h'=> ∃a,r=.func (.func 200) #[] #[ptrTo a]/\St M c h' ((a,.row [ptrTo b] 1)::L) G:=by
 have f:=S.ok;refine erA (n:=4) (rs:=[.tmp 2]) e151 ?_;simp only [BZ,seval];refine ag (bK (by intro x e;cases e)) S ?_;clear S;intro h a S d;simp only [ae]at S;simp only [BZ,ab,seval];exact⟨_,rfl,S⟩
def jk(x:Ent):List Value:=[.int .i64 (x.1:Nat),.int .u64 (x.2.1:Nat),.int .u32 (x.2.2:Nat)]
theorem mH(x:Ent):(jk x).length=3:=rfl
theorem q6(l:Bs)(t:TypeId)(p q:Operand):bQ zB .eql t p q (sv l) (.string ⟨#[77,73,76,69,49,1]⟩)=some (.bool (decide (l=dS))):=Du (l:=l) (m:=dS)
theorem fu{e:Hp}(S:St M e h L G)(d:L[i]? =some (c,o))(g:L[j]? =some (b,o'))(a:i≠j)(f:Mo (· =b) h h'):leaves h h' c=true:=by refine S.leaves (Ye d) f ?_;rintro rfl;have k:=lE (G:=G) d;have l:=lE (G:=G) g;obtain⟨p,m⟩:=List.getElem?_eq_some_iff.1 k;obtain⟨q,n⟩:=List.getElem?_eq_some_iff.1 l;exact a ((List.getElem_inj S.apart).1 (m.trans n.symm))
def goodH(s:Bs):Prop:=s.take 6=dS/\bC s<=16
theorem DY{v:Hp}{l E:Nat}{X:iI}(S:St M v hq ((y,.loop X)::(H,.dfr)::(m,.row [ptrTo b] 1)::(E,.row [.slice none 0 0] 1)::(b,.row [ptrTo l,sv s] 1)::(l,.row (rdC s 0 (.pointer none)) 1)::L) ((.slice none 0 0,3,[])::G))(hs:s.length<=1000000)(HR: ∀(k:Nat) (r:Value) (f:Value) (F:List (Nat×Ob)) (h:Hp),k<bC s->bC s<=16->FlF f (stE s (k+1)).2 F->St M v h ((y,.loop X)::(H,.dfr)::(m,.row [ptrTo b] 1)::(E,.row [r] 1)::(b,.row [ptrTo l,sv s] 1)::(l,.row (rdC s (stE s (k+1)).1 f) 1)::(F++L)) ((r,3,(zM k).flatMap fun j=>jk (enG s j))::G)->mN zB y [.agg ⟨jk (enG s k)⟩] h fun o h'=>o=.ret (.bool true)/\ ∃z,St M v h' ((y,.loop X)::(H,.dfr)::(m,.row [ptrTo b] 1)::(E,.row [z] 1)::(b,.row [ptrTo l,sv s] 1)::(l,.row (rdC s (stE s (k+1)).1 f) 1)::(F++L)) ((z,3,(zM (k+1)).flatMap fun j=>jk (enG s j))::G)):dE zB 200 [.func (.yield y) #[] #[],ptrTo m] none hq fun o rc h'=>rc=none/\
  ((goodH s/\ ∃u r f F,FlF f (stE s (bC s)).2 F/\o=.ret u/\St M v h' ((y,.loop X)::(H,.dfr)::(m,.row [ptrTo b] 1)::(E,.row [r] 1)::(b,.row [ptrTo l,sv s] 1)::(l,.row (rdC s (stE s (bC s)).1 f) 1)::(F++L)) ((r,3,(zM (bC s)).flatMap fun j=>jk (enG s j))::G))\/
   (¬goodH s/\o=.pan (.iface 29 (.int .i64 23))/\ ∃a f,St M v h' ((y,.loop X)::(H,.dfr)::(m,.row [ptrTo b] 1)::(E,.row [.slice none 0 0] 1)::(b,.row [ptrTo l,sv s] 1)::(l,.row (rdC s a f) 1)::L) ((.slice none 0 0,3,[])::G))):=by
 have ok:=S.ok;have t: ∀{h:Hp} {A:List (Nat×Ob)} {x:Nat×Ob} {F:List (Nat×Ob)} {G:List GL},St M v h (A++x::(F++L)) G->St M v h (A++x::L) G:=fun S=>S.sub ((List.Sublist.refl _).append ((YA _ L).cons_cons _)) (List.Sublist.refl _);refine enA (n:=44) (rs:=[]) e200 ?_;simp only [BZ,S.ld (b:=m) (o:=0) m2 rfl,S.ld (b:=b) (o:=0) m4 rfl,seval];refine step_ret (CZ (n:=6) (bad:=false) (St.init1 S.ok (S.own _ m5).2) (i:=0) rfl rfl (Xg _) hs (by decide)) ?_;rintro _ h ⟨rfl,I,d,T⟩;simp only [Xt]at T;obtain⟨F,p,S⟩:=St.adv (A:=[_,_,_,_,_]) (F:=[]) S (show FlF (.pointer none) false []from⟨rfl,rfl⟩) T.fr (T.own _ m0).2 d;clear T d;by_cases J:s.take 6=dS
 . have l6:6<=s.length:=(by have:=congrArg YR J;rw [XC]at this;have:(dS).length=6:=rfl;omega);rw [c6 (by omega)]at p S⊢;obtain⟨rfl,rfl⟩:I=.pointer none/\F=[]:=p;simp only [LC,Xm,J,Xd]at S⊢;have V:decide (dS=dS)=true:=decide_eq_true rfl;simp only [BZ,q6,seval];refine ar (pU S.ok (c:=23)) ?_;intro h g;replace S:=S.call g;simp only [BZ,S.ld (b:=m) (o:=0) m2 rfl,S.ld (b:=b) (o:=0) m4 rfl,seval];refine step_ret (zj (bad:=false) (St.init1 S.ok (S.own _ m5).2) (i:=0) rfl rfl (by omega) hs) ?_;rintro _ h ⟨rfl,I,d,T⟩;simp only [Xt]at T;obtain⟨F,p,S⟩:=St.adv (A:=[_,_,_,_,_]) (F:=[]) S (show FlF (.pointer none) false []from⟨rfl,rfl⟩) T.fr (T.own _ m0).2 d;clear T d;rw [many_tk];replace p:FlF I (stE s 0).2 F:=p;replace S:St M v h ([_,_,_,_,_]++(l,.row (rdC s (stE s 0).1 I) 1)::(F++L)) _:=S;simp only [LC]at S;have mb:bC s<256:=jG (k:=1) (by simp;omega);have W:am .i64 (bC s:Int)=bC s:=(by rw [wrap64]<;>omega);by_cases p2:bC s<=16
   . generalize hn:bC s=n at*
     have B:(n:Int)<=16:=(by omega);simp only [BZ,aV,ax,a9,W,B,seval];refine ar (pU S.ok (c:=23)) ?_;intro h g;replace S:=S.call g;simp only [BZ,seval];refine aD (fun(k:Nat) K h=>k<=n/\ ∃r f F,FlF f (stE s k).2 F/\St M v h ((y,.loop X)::(H,.dfr)::(m,.row [ptrTo b] 1)::(E,.row [r] 1)::(b,.row [ptrTo l,sv s] 1)::(l,.row (rdC s (stE s k).1 f) 1)::(F++L)) ((r,3,(zM k).flatMap fun j=>jk (enG s j))::G)/\K 0=.func (.yield y) #[] #[]/\K 1=ptrTo m/\K 20=.int .i64 n/\K 21=.int .i64 k) (fun k=>n-k) ?_ 0 _ _ ?_
     . clear S p;intro k ih K h ⟨hk,r,f,F,p,S,r0,r1,r20,r21⟩;have w:am .i64 ((k:Int)+1)=((k+1:Nat):Int):=(by rw [wrap64]<;>omega);by_cases hlt:k<n
       . obtain⟨q1,q2,q3⟩:=enG_lt s k;have N:=zH l6 k;simp only [BZ,r20,r21,aq,hlt,seval];refine rJ (by kernel_rfl) (n:=18) (by kernel_rfl) (aB rfl) (q:=0) (ps:=[(11,15),(5,15),(11,12),(5,12),(5,10),(5,7)]) (by kernel_rfl) ?_;simp only [XX,Yj,Xd,XA,XI,XZ,Xm,seval];simp only [BZ,cls,r0,r1,S.ld (b:=m) (o:=0) m2 rfl,S.ld (b:=b) (o:=0) m4 rfl,seval];refine cF (zj (St.init1 S.ok (S.own _ m5).2) (i:=0) rfl p.rd N hs) ?_;rintro _ h ⟨rfl,f1,d,T⟩;simp only [Xt]at T;have Y:=fu S (i:=2) (j:=5) rfl rfl (by decide) T.fr;have Z:=fu S (i:=4) (j:=5) rfl rfl (by decide) T.fr;obtain⟨F1,C,S⟩:=St.adv (A:=[_,_,_,_,_]) S p T.fr (T.own _ m0).2 d;clear T d p;simp only [LC]at S;have O:=mJ (n:=1) (bad:=(stE s k).2) N;have wk:am .i64 ((aS (aT s (stE s k).1 (stE s k).2 1).1:Nat):Int)=((enG s k).1:Nat):=wrap64 (by show _<=((enG s k).1:Int);omega) (by show((enG s k).1:Int)<_;omega);simp only [BZ,aV,ax,a9,cls,r1,wk,S.ld (b:=m) (o:=0) m2 rfl,S.ld (b:=b) (o:=0) m4 rfl,seval];refine cF (rU64_ok (St.init1 S.ok (S.own _ m5).2) (i:=0) rfl C.rd O hs) ?_;rintro _ h ⟨rfl,f2,d,T⟩;simp only [Xt]at T;have v2:=fu S (i:=2) (j:=5) rfl rfl (by decide) T.fr;have u2:=fu S (i:=4) (j:=5) rfl rfl (by decide) T.fr;obtain⟨F2,D,S⟩:=St.adv (A:=[_,_,_,_,_]) S C T.fr (T.own _ m0).2 d;clear T d C;simp only [LC]at S;have Q:=mJ (n:=8) (bad:=(aT s (stE s k).1 (stE s k).2 1).2.2) O;simp only [BZ,cls,r1,S.ld (b:=m) (o:=0) m2 rfl,S.ld (b:=b) (o:=0) m4 rfl,seval];refine cF (z7 (St.init1 S.ok (S.own _ m5).2) (i:=0) rfl D.rd Q hs) ?_;rintro _ h ⟨rfl,f3,d,T⟩;simp only [Xt]at T;have v3:=fu S (i:=2) (j:=5) rfl rfl (by decide) T.fr;have u3:=fu S (i:=4) (j:=5) rfl rfl (by decide) T.fr;obtain⟨F3,P,S⟩:=St.adv (A:=[_,_,_,_,_]) S D T.fr (T.own _ m0).2 d;clear T d D;simp only [LC]at S;simp only [BZ,cls,seval];refine⟨by simp only [aR,aZ,aM,bo,aP,ne_eq,not_false_eq_true,bj,bH,aQ,aO,bS,cq,az,Xl,r1,ah,aG Y,aG Z,aG v2,aG u2,aJ Y,aJ Z,aJ v2,aJ u2,seval],?_⟩;refine uQ (HR k r f3 F3 _ hlt (by omega) P S) ?_;rintro _ h ⟨rfl,z,S⟩;simp only [BZ,r21,w,seval];exact ih (k+1) _ _ (by omega) ⟨by omega,z,f3,F3,P,S,by simp [ao,r0,r1,r20]⟩
       . have R:k=n:=(by omega);subst R;simp only [BZ,r20,r21,aq,hlt,seval];exact dG (cy ⟨rfl,_,rfl,rfl,.inl ⟨⟨J,by omega⟩,_,r,f,F,p,rfl,S⟩⟩)
     . exact⟨Xg _,_,I,F,p,S,by simp [ao,cC,ah]⟩
   . have B: ¬(bC s:Int)<=16:=(by omega);simp only [BZ,aV,ax,a9,W,B,seval];refine ce (oe S.ok (c:=23)) ?_;rintro _ _ h ⟨rfl,rfl,g⟩;replace S:=S.call g;simp only [BZ,Xn];exact cg (cy ⟨rfl,.inr ⟨fun h=>p2 h.2,rfl,_,_,t (A:=[_,_,_,_,_]) S⟩⟩)
 . have U: ¬(aT s 0 false 6).1=dS:=fun e=>by
    by_cases hl:0+6<=s.length
    . rw [c6 hl]at e;exact J e
    . rw [jN (.inr (by omega))]at e;cases e
   have V:decide ((aT s 0 false 6).1=dS)=false:=decide_eq_false U;simp only [BZ,q6,V,seval];refine ce (oe S.ok (c:=23)) ?_;rintro _ _ h ⟨rfl,rfl,g⟩;replace S:=S.call g;simp only [BZ,Xn];exact cg (cy ⟨rfl,.inr ⟨fun h=>J h.1,rfl,_,_,t (A:=[_,_,_,_,_]) S⟩⟩)
theorem encEs(s:Bs)(k:Nat):((zM k).flatMap fun j=>jk (cJ s j))=((zM k).map (cJ s)).flatMap jk:=by rw [YE]
theorem encGs(s:Bs)(k:Nat):((zM k).flatMap fun j=>jk (enG s j))=((zM k).map (enG s)).flatMap jk:=by rw [YE]
theorem encG(h:7+13*k<=s.length):((zM k).flatMap fun j=>jk (enG s j))=(zM k).flatMap fun j=>jk (cJ s j):=by rw [encGs,encEs,XJ fun j a=>enG_eq (by have:=List.mem_range.1 a;omega)]
def DecQ(M:Nat->Prop)(d:Hp)(L:List (Nat×Ob))(G:List GL)(s:Bs)(b c:Nat)(o:Out)(h':Hp):Prop:=
 ∃ a f,match kU s with
     | .ok l=> ∃v,o=.ret v/\St M d h' ((b,.row [ptrTo c,sv s] 1)::(c,.row (rdC s a f) 1)::L) ((v,2,l.flatMap encS)::G)| .error e=>o=.pan (.iface 29 (.int .i64 (if e=true then 24 else 23)))/\St M d h' ((b,.row [ptrTo c,sv s] 1)::(c,.row (rdC s a f) 1)::L) G
theorem decode_ok{U:Hp}{D:Nat}(S:St M U hq ((b,.row [ptrTo D,sv s] 1)::(D,.row (rdC s 0 (.pointer none)) 1)::L) G)(hs:s.length<=1000000):dE zB 95 [ptrTo b] none hq fun o rc h'=>rc=none/\DecQ M U L G s b D o h':=by
 have ok:=S.ok;refine enA (n:=106) (rs:=[.tmp 2]) e95 ?_;simp only [BZ];refine ag ay S ?_;clear S;intro h Z S a1;simp only [BZ,seval];refine step_ret (EO S) ?_;rintro _ h ⟨bx,rfl,S⟩;simp only [BZ];refine kH S (g:=200) (a:=#[]) (b:=#[ptrTo bx]) (by simp [bS,ao,ah]) rfl rfl ?_;clear S;intro h I lb S _ _ _;obtain⟨X,hX,S⟩: ∃X:iI,X=_/\St M U h ((lb,.loop X)::_) G:=⟨_,rfl,S⟩;refine d7 (DY (S.nilG (k:=3)) hs ?_) ?_
 . clear S;intro k E f F h hk a2 hF S;subst hX;have eg:((zM (k+1)).flatMap fun j=>jk (enG s j))=((zM k).flatMap fun j=>jk (enG s j))++jk (enG s k):=(by rw [XT,Xz];simp);rw [eg];refine kK (S.get m0) (by rw [e95];rfl) rfl ?_;simp only [BZ];refine ag ay S ?_;clear S;intro h b4 S a3;simp only [BZ,jk,seval];refine au (stA S (i:=0) t228.2.1) ?_;clear S;rintro h ⟨S,J⟩;clear J;simp only [LC,ae,lay,Xo,Xp,seval]at S;simp only [BZ];refine jP S (i:=1) rfl rfl rfl rfl rfl ?_;clear S;intro h S;have P:Fl E:=(S.gown _ m0).1.fl;simp only [BZ,XA,XI,Xm,S.ld (b:=Z) (o:=0) m4 rfl,S.lds (b:=b4) (o:=0) (n:=3) m0 (lbt rfl),seval];refine ag (bD (by exact t229.1) (by exact e234E) (by decide) (by rfl)) S ?_;clear S;intro h bs S aa;simp only [LC,bA,bN,ae,Xs,Xd,Xr,Xy,seval]at S;simp only [BZ,seval];have y:aF h 3 (.slice (some ⟨bs,0,none⟩) 1 1)=some (1,jk (enG s k)):=(by simp only [aF];rw [S.lds (b:=bs) (o:=0) (n:=1*3) m0 (lbt rfl)];rfl);replace S:=S.drop1;refine dq (S.grow (j:=0) (m:=1) (new:=jk (enG s k)) rfl t229.1 e234E (by decide) t229.2.2.2.2.2 y rfl (by decide) rfl (by rw [encGs,aK mH,Xv,XG,mH];omega)) ?_;clear S y P;rintro h ac S;simp only [LC]at S;have P:Fl ac:=(S.gown _ m0).1.fl;simp only [BZ,seval];refine au (aw S (i:=4) rfl ?_ ?_ ?_ ono) ?_
   . exact(by simp only [FA0])
   . exact(by assumption)
   . exact Xb (lbt rfl)
   clear S;rintro h ⟨S,J⟩;clear J;simp only [LC,ae,lay,Xo,Xp,seval]at S;simp only [BZ];refine gR S (i:=1) rfl ?_;clear S;intro h S;exact⟨rfl,ac,S.drop1⟩
 . clear S;have d: ∀{h':Hp} {a:Nat} {f:Value} {L':List (Nat×Ob)} {G':List GL},¬jJ s->St M U h' L' G'->((b,.row [ptrTo D,sv s] 1)::(D,.row (rdC s a f) 1)::L).Sublist L'->G.Sublist G'->DecQ M U L G s b D (.pan (.iface 29 (.int .i64 23))) h':=fun {h' a f L' G'} hh S s1 s2=>(by have e:kU s=.error false:=(by unfold kU;rw [if_neg hh]);unfold DecQ;simp only [e];exact⟨a,f,rfl,S.sub s1 s2⟩);rintro o rc h ⟨rfl,C⟩;subst hX;rcases C with⟨⟨p1,p2⟩,u,E,f,F,hF,rfl,S⟩|⟨np,rfl,a,f,S⟩;rotate_left
   . show Run _ _ _ _ _ _ _ _;simp only [BZ];replace S:=S.drop1;have K: ¬jJ s:=fun h=>np ⟨h.1,h.2.2.1⟩;exact cg (ib [I] h S fun h' S=>⟨rfl,d K S ((Xc _ _).trans (Xc _ _)) (Xc _ _)⟩)
   refine⟨_,S.get m0,X7,?_⟩;replace S:=S.dead;show Run _ _ _ _ _ _ _ _;simp only [BZ,S.ld (b:=b) (o:=0) m3 rfl,seval];refine ar (rAt_ok S.ok (S.row m4)) ?_;intro h g;replace S:=S.call g;simp only [BZ,S.ld (b:=b) (o:=0) m3 rfl,seval];have l6:6<=s.length:=(by have:=congrArg YR p1;rw [XC]at this;have:(dS).length=6:=rfl;omega);have al:=zH l6 (bC s);refine step_ret (z7 (St.init1 S.ok (S.own _ m4).2) (i:=0) rfl hF.rd al hs) ?_;rintro _ h ⟨rfl,f',z,T⟩;simp only [Xt]at T;obtain⟨F',N,S⟩:=St.adv (A:=[_,_,_,_]) S hF T.fr (T.own _ m0).2 z;clear T z hF;by_cases p3:11+13*bC s<=s.length;rotate_left
   . have K: ¬jJ s:=fun h=>p3 h.2.2.2.1;rw [Ci (by omega)]at N;obtain⟨bf,lf,rfl,an,rfl⟩:=N;simp only [LC]at S;simp only [BZ,S.ld (b:=b) (o:=0) m3 rfl,seval];refine step_ret (rErrB_ok S.ok (S.row m4) (S.row m5) an) ?_;rintro _ h ⟨g,t,v,rfl⟩;replace S:=S.call g;simp only [BZ,seval];refine ce (oe S.ok (c:=23)) ?_;rintro _ _ h ⟨rfl,rfl,g⟩;replace S:=S.call g;simp only [BZ,Xn];exact cg (ib [I] h S fun h' S=>⟨rfl,d K S ((((Xc _ _).cons_cons _).cons_cons _).trans ((Xc _ _).trans (Xc _ _))) (Xc _ _)⟩)
   rw [vP (bC s) (by omega),c6 (by simp only [];omega)]at N S⊢;obtain⟨rfl,rfl⟩:f'=.pointer none/\F'=[]:=N;simp only [LC]at S⊢;rw [encG (by omega)]at S;simp only [BZ,S.ld (b:=b) (o:=0) m3 rfl,seval];refine ar (rErr_ok S.ok (S.row m4)) ?_;intro h g;replace S:=S.call g;have sl:=qw (l:=s) (k:=.i64) (b:=7+13*bC s) Tryz.t9.1 (by omega);simp only [BZ,X6,Yi,sl,S.ld (b:=b) (o:=0) m3 rfl,S.ld (b:=b) (o:=1) m3 rfl,seval];refine ar (zS S.ok (l:=s.take (7+13*bC s)) (by rw [XC];omega)) ?_;intro h g;replace S:=S.call g;by_cases p4:aS ((s.drop (7+13*bC s)).take 4)=crc (s.take (7+13*bC s));rotate_left
   . have K: ¬jJ s:=fun h=>p4 h.2.2.2.2.1;have q4:(((aS ((s.drop (7+13*bC s)).take 4):Nat):Int)=((crc (s.take (7+13*bC s)):Nat):Int))=False:=eq_false (by omega);simp only [BZ,q4,seval];refine ce (oe S.ok (c:=23)) ?_;rintro _ _ h ⟨rfl,rfl,g⟩;replace S:=S.call g;simp only [BZ,Xn];exact cg (ib [I] h S fun h' S=>⟨rfl,d K S ((Xc _ _).trans (Xc _ _)) (Xc _ _)⟩)
   have q4:(((aS ((s.drop (7+13*bC s)).take 4):Nat):Int)=((crc (s.take (7+13*bC s)):Nat):Int))=True:=eq_true (by omega);simp only [BZ,q4,seval];refine ar (pU S.ok (c:=23)) ?_;intro h g;replace S:=S.call g;rw [show 7+13*bC s+4=11+13*bC s by omega]at S;simp only [BZ,S.ld (b:=b) (o:=0) m3 rfl,seval];refine ar (rLeft_ok S.ok (S.row m4) (by omega) hs) ?_;intro h g;replace S:=S.call g;obtain⟨R,hR⟩: ∃R,R=s.length-(11+13*bC s):=⟨_,rfl⟩;rw [<-hR];have wl:=bJ (k:=.u64) rfl (n:=R) (by simp only [pw];omega);have P:Fl E:=(S.gown _ m0).1.fl;have H:=(S.gown _ m0).1.sl (xs:=esF s) (encEs s _) mH (by decide);have O:(esF s).length=bC s:=tX s;have ad: ∀k (hk:k<bC s),(esF s)[k]'(by omega)=cJ s k:=fun k hk=>(by have:=esF_at hk;rw [Xj (by omega)]at this;exact Option.some.inj this);simp only [BZ,aV,ax,a9,wl,H.lenq,O,S.ld (b:=Z) (o:=0) m2 rfl,seval];refine aD (fun(k:Nat) p h=>k<=bC s/\St M U h ((I,.dfr)::(bx,.row [ptrTo b] 1)::(Z,.row [E] 1)::(b,.row [ptrTo D,sv s] 1)::(D,.row (rdC s (11+13*bC s) (.pointer none)) 1)::L) ((E,3,(zM (bC s)).flatMap fun j=>jk (cJ s j))::G)/\p 0=ptrTo b/\p 2=.slice none 0 0/\p 3=ptrTo Z/\dg s k<=R/\p 7=.int .u64 ((R-dg s k:Nat):Int)/\p 53=E/\p 54=.int .i64 (bC s:Nat)/\p 55=.int .i64 (k:Nat)) (fun k=>bC s-k) ?_ 0 _ _ ⟨Xg _,S,by simp [ao,cC,ah],by simp [ao],by simp [ao,ah],by simp [dg],by simp [ao,dg]⟩;clear S H sl;intro k ih p h ⟨hk,S,r0,r2,r3,hle,r7,r53,r54,r55⟩;have H:=(S.gown _ m0).1.sl (xs:=esF s) (encEs s _) mH (by decide);have w:am .i64 ((k:Int)+1)=((k+1:Nat):Int):=(by rw [wrap64]<;>omega);by_cases hlt:k<bC s
   . obtain⟨c,o,r,x⟩:=H.ix (kd:=.i64) mH (by rw [O];exact hlt);rw [ad k hlt]at x;have l1:=rq hlt;by_cases hL:dg s (k+1)<=R;rotate_left
     . have K: ¬jJ s:=fun h=>hL (by have:=yk s (k+1);have:=(pq h).2.2.2.2;omega);have le:(((cJ s k).2.1:Int)<=((R-dg s k:Nat):Int))=False:=eq_false (by omega);simp only [BZ,r53,r54,r55,aq,hlt,r,x,seval];refine ag ay S ?_;clear S;intro h b9 S af;simp only [BZ,jk,seval];refine au (stA S (i:=0) t228.2.1) ?_;clear S;rintro h ⟨S,J⟩;clear J;simp only [LC,ae,lay,Xo,Xp,seval]at S;simp only [BZ,r7,le,S.ld (b:=b9) (o:=1) m0 rfl,seval];refine ce (oe S.ok (c:=23)) ?_;rintro _ _ h ⟨rfl,rfl,g⟩;replace S:=(S.call g).drop1;simp only [BZ,Xn];exact cg (ib [I] h S fun h' S=>⟨rfl,d K S ((Xc _ _).trans (Xc _ _)) (Xc _ _)⟩)
     have le:(((cJ s k).2.1:Int)<=((R-dg s k:Nat):Int))=True:=eq_true (by omega);have ws:am .u64 (((R-dg s k:Nat):Int)-((cJ s k).2.1:Int))=((R-dg s (k+1):Nat):Int):=(by rw [show(((R-dg s k:Nat):Int)-((cJ s k).2.1:Int))=((R-dg s (k+1):Nat):Int) by omega];exact bJ rfl (by simp only [pw];omega));simp only [BZ,r53,r54,r55,aq,hlt,r,x,seval];refine ag ay S ?_;clear S;intro h b9 S af;simp only [BZ,jk,seval];refine au (stA S (i:=0) t228.2.1) ?_;clear S;rintro h ⟨S,J⟩;clear J;simp only [LC,ae,lay,Xo,Xp,seval]at S;simp only [BZ,r7,le,S.ld (b:=b9) (o:=1) m0 rfl,seval];refine ar (pU S.ok (c:=23)) ?_;intro h g;replace S:=S.call g;simp only [BZ,r7,r55,ws,w,S.ld (b:=b9) (o:=1) m0 rfl,seval];exact ih (k+1) _ _ (by omega) ⟨by omega,S.drop1,by simp [ao,r0],by simp [ao,r2],by simp [ao,r3],hL,by simp [ao,r53,r54]⟩
   have V:k=bC s:=(by omega);subst V;by_cases hz:R-dg s (bC s)=0;rotate_left
   . have K: ¬jJ s:=fun h=>hz (by have:=(pq h).2.2.2.2;omega);have z0:(((R-dg s (bC s):Nat):Int)=0)=False:=eq_false (by omega);simp only [BZ,r7,r54,r55,aq,hlt,z0,seval];refine ce (oe S.ok (c:=23)) ?_;rintro _ _ h ⟨rfl,rfl,g⟩;replace S:=S.call g;simp only [BZ,Xn];exact cg (ib [I] h S fun h' S=>⟨rfl,d K S ((Xc _ _).trans (Xc _ _)) (Xc _ _)⟩)
   have p5:dg s (bC s)=s.length-(11+13*bC s):=(by omega);have hh:jJ s:=⟨p1,by omega,p2,p3,p4,by rw [yZ,<-tC];exact p5⟩;rw [hz]at r7;have z0:((0:Nat):Int)=0:=rfl;simp only [BZ,r7,r54,r55,aq,hlt,z0,seval];refine ar (pU S.ok (c:=23)) ?_;intro h g;replace S:=S.call g;clear g;have H:=(S.gown _ m0).1.sl (xs:=esF s) (encEs s _) mH (by decide);have P:Fl E:=(S.gown _ m0).1.fl;simp only [BZ,r3,H.lenq,O,S.ld (b:=Z) (o:=0) m2 rfl,seval];replace S:=S.nilG (k:=2);refine aD (fun(k:Nat) p h=>k<=bC s/\ ∃v,St M U h ((I,.dfr)::(bx,.row [ptrTo b] 1)::(Z,.row [E] 1)::(b,.row [ptrTo D,sv s] 1)::(D,.row (rdC s (i6 s k) (.pointer none)) 1)::L) ((v,2,((zM (k)).map (fh s)).flatMap encS)::(E,3,(zM (bC s)).flatMap fun j=>jk (cJ s j))::G)/\(∀j,j<k->crc (fh s j).2=(cJ s j).2.2)/\p 0=ptrTo b/\p 2=v/\p 72=E/\p 73=.int .i64 (bC s:Nat)/\p 74=.int .i64 (k:Nat)) (fun k=>bC s-k) ?_ 0 _ _ ⟨Xg _,_,by rw [show i6 s 0=11+13*bC s by simp [i6,dg]];exact S,fun j h=>absurd h (YN _),by simp [ao,r0,r2]⟩;clear S H P r0 r2 r3 r7 r53 r54 r55 ih;clear p h;intro k ih p h ⟨hk,v,S,hc,r0,r2,r72,r73,r74⟩;have H:=(S.gown _ m1).1.sl (xs:=esF s) (encEs s _) mH (by decide);have P:Fl v:=(S.gown _ m0).1.fl;have w:am .i64 ((k:Int)+1)=((k+1:Nat):Int):=(by rw [wrap64]<;>omega);by_cases hlt:k<bC s
   . obtain⟨c,o,r,x⟩:=H.ix (kd:=.i64) mH (by rw [O];exact hlt);rw [ad k hlt]at x;have o1:=wR hlt;have o2:=offF_le hh (k+1);have ts:=c6 (s:=s) (a:=i6 s k) (n:=(cJ s k).2.1) (by omega);have wn:am .i64 ((cJ s k).2.1:Int)=((cJ s k).2.1:Nat):=(by rw [wrap64]<;>omega);simp only [BZ,r72,r73,r74,aq,hlt,r,x,seval];refine ag ay S ?_;clear S;intro h B S aL;simp only [BZ,jk,seval];refine au (stA S (i:=0) t228.2.1) ?_;clear S;rintro h ⟨S,J⟩;clear J;simp only [LC,ae,lay,Xo,Xp,seval]at S;simp only [BZ];refine rJ (by kernel_rfl) (n:=14) (by kernel_rfl) (aB rfl) (q:=4096) (ps:=[(2,10)]) (by kernel_rfl) ?_;simp only [XX,Yj,Xd,XA,XI,XZ,Xm,seval];simp only [BZ,aV,ax,a9,cls,r0,r2,wn,S.ld (b:=B) (o:=0) m0 rfl,S.ld (b:=B) (o:=1) m0 rfl,S.ld (b:=b) (o:=0) m4 rfl,seval];refine cF (CZ (bad:=false) (St.init1 S.ok (S.own _ m5).2) (i:=0) rfl rfl (by omega) hs (by omega)) ?_;rintro _ h ⟨rfl,f',z,T⟩;rw [ts]at z T⊢;obtain rfl:f'=.pointer none:=z.1;simp only [Xt]at T;have v1:=fu S (i:=0) (j:=5) rfl rfl (by decide) T.fr;have u1:=fu S (i:=4) (j:=5) rfl rfl (by decide) T.fr;replace S:=S.call1 (i:=5) rfl T.fr (T.own _ m0).2;simp only [LC,zO,Xi]at S;clear T;rw [<-o1]at S;simp only [BZ,cls,gP,seval];refine dR (bD (by exact t33.1) (by exact Y5) (by decide) (by rfl)) S ?_;clear S;intro h bs S aa a4;simp only [LC,bA,bN,ae,Xs,Xd,Xr,Xy,seval]at S;have y:aF h 2 (.slice (some ⟨bs,0,none⟩) 1 1)=some (1,encS (fh s k)):=(by simp only [aF];rw [S.lds (b:=bs) (o:=0) (n:=1*2) m0 (lbt rfl)];rfl);replace S:=S.drop1;simp only [BZ,cls,seval];refine jo (S.grow (j:=0) (m:=1) (new:=encS (fh s k)) rfl t33.1 Y5 (by decide) t33.2.2.2.2.2 y rfl (by decide) rfl (by rw [aK ck,ck,Xv,XG];omega)) ?_;clear S y P H;rintro h v2 S;simp only [LC]at S;rw [show((zM k).map (fh s)).flatMap encS++encS (fh s k)=((zM (k+1)).map (fh s)).flatMap encS by rw [XT,XQ,Xz];simp]at S;have P:Fl v2:=(S.gown _ m0).1.fl;simp only [BZ,seval];refine⟨by simp only [aR,aZ,aM,bo,aP,ne_eq,not_false_eq_true,bj,bH,aQ,aO,bS,cq,az,Xl,r0,r2,ah,aG v1,aG u1,aJ v1,aJ u1,seval],?_⟩;have ai:=(S.gown _ m0).1.sl (xs:=(zM (k+1)).map (fh s)) rfl ck (by decide);have ll:((zM (k+1)).map (fh s)).length=k+1:=(by simp);obtain⟨c2,o2,W,Q⟩:=ai.ix (kd:=.i64) ck (i:=k) (by omega);rw [show((zM (k+1)).map (fh s))[k]'(by omega)=fh s k by simp]at Q;have ak:_=some [sv (fh s k).2]:=dz Q (i:=1) (m:=1) (by decide);have w2:am .i64 (((k+1:Nat):Int)-1)=(k:Nat):=(by rw [wrap64]<;>omega);refine rJ (by kernel_rfl) (n:=11) (by kernel_rfl) (aB rfl) (q:=0) (ps:=[(7,9)]) (by kernel_rfl) ?_;simp only [XX,Yj,Xd,XA,XI,XZ,Xm,seval];simp only [BZ,cls,r2,ai.lenq,ll,w2,W,ak,seval];refine da (zS S.ok (l:=(fh s k).2) (by simp [fh];omega)) ?_;intro h g;have kl:=S.key_lt (b:=B) (by simp [keys]);have v3:=aI g kl;replace S:=S.call g;by_cases Y:crc (fh s k).2=(cJ s k).2.2
     . simp only [BZ,cls,Y,S.ld (b:=B) (o:=2) m0 rfl,seval];refine⟨by simp only [aR,aZ,aM,bo,aP,ne_eq,not_false_eq_true,bj,bH,aQ,aO,bS,cq,az,Xl,r0,r2,ah,aJ v3,aG v3,seval],?_⟩;refine ar (pU S.ok (c:=24)) ?_;intro h g;replace S:=S.call g;simp only [BZ,r74,w,seval];exact ih (k+1) _ _ (by omega) ⟨by omega,v2,S.drop1,fun j hj=>by
        rcases Yl (Yy hj)with h|rfl
        . exact hc j h
        . exact Y,by simp [ao,r0,r72,r73]⟩
     . have a0: ¬(((crc (fh s k).2:Nat):Int)=((cJ s k).2.2:Nat)):=(by omega);simp only [BZ,cls,a0,S.ld (b:=B) (o:=2) m0 rfl,seval];refine⟨by simp only [aR,aZ,aM,bo,aP,ne_eq,not_false_eq_true,bj,bH,aQ,aO,bS,cq,az,Xl,r0,r2,ah,aJ v3,aG v3,seval],?_⟩;refine ce (oe S.ok (c:=24)) ?_;rintro _ _ h ⟨rfl,rfl,g⟩;replace S:=(S.call g).drop1;simp only [BZ,Xn];refine cg (ib [I] h S fun h' S=>?_);refine⟨rfl,?_⟩;unfold DecQ;rw [wU hh,bodF_no hlt Y];exact⟨i6 s (k+1),.pointer none,rfl,S.drop1.drop1.sub (List.Sublist.refl _) ((Xc _ _).trans (Xc _ _))⟩
   . have V:k=bC s:=(by omega);subst V;simp only [BZ,r2,r73,r74,aq,hlt,seval];refine ig (ib [I] h S fun h' S=>⟨rfl,[v],?_,?_⟩)
     . rfl
     . refine⟨rfl,?_⟩;unfold DecQ;rw [wU hh,bodF_ok hc];exact⟨i6 s (bC s),.pointer none,v,rfl,S.drop1.drop1.sub (List.Sublist.refl _) ((Xc _ _).cons_cons _)⟩
def SlK{a:Type}(h:Hp)(k:Nat)(enc:a->List Value)(v:Value)(xs:List a):Prop:=
 (v=.slice none 0 0/\xs=[])\/ ∃b o c,v=.slice (some ⟨b,o,some k⟩) xs.length c/\xs.length<=c/\h.load b o (xs.length*k)=some (xs.flatMap enc)
section
variable{α:Type}{h h':Hp}{k:Nat}{enc:α->List Value}{v:Value}{xs:List α}{vs:List Value}
theorem SlK.sl(s:SlK h k enc v xs):aH h k enc v xs:=s.imp id fun⟨b,o,c,a,d,e⟩=>⟨b,o,_,c,a,d,e⟩
theorem SlK.gr(g:Gr h h')(s:SlK h k enc v xs):SlK h' k enc v xs:=s.imp id fun⟨b,o,c,a,d,e⟩=>⟨b,o,c,a,d,g.load e⟩
theorem kB.slk(g:kB h (v,k,vs))(e:vs=xs.flatMap enc)(d: ∀x,(enc x).length=k)(i:0<k):SlK h k enc v xs:=by
 rcases g with⟨c,a⟩|⟨b,n,c,a,f⟩
 . simp only []at c a;refine .inl ⟨c,?_⟩;subst e;cases xs with
   |nil=>rfl|cons x xs=>have:=congrArg YR a;rw [zO,Xh,d]at this;simp only [Yj]at this;omega
 . simp only []at c a f;subst e;rw [aK d]at a;have j:n=xs.length:=Nat.eq_of_mul_eq_mul_right i a;subst j;refine .inr ⟨b,0,xs.length,c,XB _,?_⟩;rw [f.load (by rw [aK d];omega),Xm,Xx (by rw [aK d];omega)]
theorem fm_take(a: ∀x,(enc x).length=k)(n:Nat):((xs.flatMap enc).take (n*k))=(xs.take n).flatMap enc:=by
 induction xs generalizing n with
 |nil=>simp| cons x xs b=>
   cases n with
   |zero=>simp|succ n=>rw [zO,XA,zO,YF,Y4 (n*k) k,<-a x,List.take_length_add_append,a x,b]
theorem fm_drop(a: ∀x,(enc x).length=k)(n:Nat):((xs.flatMap enc).drop (n*k))=(xs.drop n).flatMap enc:=by
 induction xs generalizing n with
 |nil=>simp| cons x xs b=>
   cases n with
   |zero=>simp|succ n=>rw [zO,XZ,YF,Y4 (n*k) k,<-a x,List.drop_length_add_append,a x,b]
variable{E:Env}{t e:TypeId}{n:Nat}{kd:IntKind}
theorem SlK.to(g:E.und t=some (.slice e))(hs:E.sz e=some k)(j: ∀x,(enc x).length=k)(s:SlK h k enc v xs)(f:n<=xs.length): ∃v',cZ E t v none (some (.int kd (n:Int))) none=some v'/\SlK h k enc v' (xs.take n):=by
 have d: ∀n:Nat,gM (n:Int)=some n:=fun n=>rfl;rcases s with⟨rfl,rfl⟩|⟨b,o,c,rfl,l,p⟩
 . have:n=0:=(by simpa using f);subst this;refine⟨.slice none 0 0,?_,.inl ⟨rfl,by simp⟩⟩;simp only [cZ,g,dQ,fe,d,hs];rfl
 . have a:(xs.take n).length=n:=(by rw [XC];omega);refine⟨.slice (some ⟨b,o,some k⟩) n c,?_,.inr ⟨b,o,c,by rw [a],by rw [a];omega,?_⟩⟩
   . simp only [cZ,g,dQ,fe,d,hs,Yc (Xe f l),cond_true,Y6,Xs,Nat.add_zero,Nat.sub_zero];cases Nat.beq c 0<;>rfl
   . rw [a];have:=dz p (i:=0) (m:=n*k) (by rw [Xd];exact Yf k f);rw [Nat.add_zero,Xm,fm_take j]at this;exact this
theorem SlK.mo(g:Mo M h h')(s:SlK h k enc v xs)(d: ∀b,aA v b-> ¬M b):SlK h' k enc v xs:=s.imp id fun⟨b,o,c,a,f,i⟩=>⟨b,o,c,a,f,by
 have j: ¬M b:=d b (by subst a;rfl);have:=g.get b (bU g.ok0 i) j;grind [Hp.load]⟩
theorem SlK.from(f:E.und t=some (.slice e))(hs:E.sz e=some k)(l: ∀x,(enc x).length=k)(s:SlK h k enc v xs)(g:n<=xs.length): ∃v',cZ E t v (some (.int kd (n:Int))) none none=some v'/\SlK h k enc v' (xs.drop n)/\ ∀c,aA v' c->aA v c:=by
 have d: ∀n:Nat,gM (n:Int)=some n:=fun n=>rfl;rcases s with⟨rfl,rfl⟩|⟨b,o,c,rfl,u,p⟩
 . have:n=0:=(by simpa using g);subst this;refine⟨.slice none 0 0,?_,.inl ⟨rfl,by simp⟩,fun _ h=>h⟩;simp only [cZ,f,dQ,fe,d,hs];rfl
 . have a:(xs.drop n).length=xs.length-n:=(by rw [List.length_drop]);have q:=dz p (i:=n*k) (m:=(xs.length-n)*k) (by rw [<-Nat.add_mul];exact Yf k (by omega));rw [fm_drop l,Xx (by rw [aK l,a];exact XB _)]at q;cases j:Nat.beq c n with
   | false=>
     refine⟨.slice (some ⟨b,o+n*k,some k⟩) (xs.length-n) (c-n),?_,.inr ⟨b,o+n*k,c-n,by rw [a],by rw [a];omega,by rw [a];exact q⟩,fun _ h=>h⟩;simp only [cZ,f,dQ,fe,d,hs,Yc g,cond_true,Y6,Yv,cond_false,j]
   | true=>
     have w:=Nat.eq_of_beq_eq_true j;refine⟨.slice (some ⟨b,o,some k⟩) (xs.length-n) (c-n),?_,.inr ⟨b,o,c-n,by rw [a],by rw [a];omega,?_⟩,fun _ h=>h⟩
     . simp only [cZ,f,dQ,fe,d,hs,Yc g,cond_true,Y6,Yv,cond_false,j]
     . have r:xs.drop n=[]:=Ym (by omega);rw [r];have:=dz p (i:=0) (m:=0) (by omega);simpa using this
end
theorem rj{b:Hp}(S:St M b hq L G):Ret zB 94 [sv s] hq fun r h'=> ∃a,r=ptrTo a/\St M b h' ((a,.row (rdC s 0 (.pointer none)) 1)::L) G:=by
 have d:=S.ok;refine erA (n:=6) (rs:=[.tmp 2]) e94 ?_;simp only [BZ,gP (l:=s),seval];refine ag (bK (by intro x e;cases e)) S ?_;clear S;intro h a S c;simp only [ae]at S;simp only [BZ,ab,seval];exact⟨_,rfl,S⟩
theorem fDec1_ok(b:OZ a):dE zB 93 [ptrTo c,ptrTo d] none a fun o rc h'=>(∃v,o=.ret v)/\rc=none/\Gr a h':=by have S:=Si b;refine enA (n:=17) (rs:=[]) e93 ?_;simp only [BZ,seval];exact dG (cy ⟨rfl,_,rfl,⟨_,rfl⟩,rfl,S.gr⟩)
theorem fDec1_no{e:Hp}{a:Nat}{u w:Value}(S:St M e hq L G)(f:L[i]? =some (a,.row [u] 1))(g:L[j]? =some (b,.row [w] 1))(d:i≠j){c:Int}:dE zB 93 [ptrTo a,ptrTo b] (some (.iface 29 (.int .i64 c),false)) hq fun o rc h'=>(∃v,o=.ret v)/\rc=some (.iface 29 (.int .i64 c),true)/\St M e h' ((L.set i (a,.row [.slice none 0 0] 1)).set j (b,.row [.int .i64 c] 1)) G:=by
 have k:=S.ok;refine enA (n:=17) (rs:=[]) e93 ?_;simp only [BZ,seval];refine au (aw S (i:=i) f t33.2.2.1 bW (Xb (lbt rfl)) ono) ?_;clear S;rintro h ⟨S,_⟩;simp only [BZ,seval];refine au (aw S (i:=j) (by rw [List.getElem?_set_ne d];exact g) t29.2.2.1 cE (Xb (lbt rfl)) ono) ?_;clear S;rintro h ⟨S,_⟩;simp only [BZ];exact dG (cy ⟨rfl,_,rfl,⟨_,rfl⟩,rfl,S⟩)
theorem Fy{d:Hp}(ok:OZ d)(hs:s.length<=1000000):Ret zB 34 [sv s] d fun r h'=>Gr d h'/\match kU s with
 | .ok l=> ∃v,r=.tuple #[v,.int .i64 0]/\SlK h' 2 encS v l/\ ∀c,aA v c->d.n<=c| .error e=>r=.tuple #[.slice none 0 0,.int .i64 (if e=true then 24 else 23)]:=by
 have S:=Si ok;refine erA (n:=13) (rs:=[.cell 2 33,.cell 3 29]) e34 ?_;simp only [BZ];refine ag ay S ?_;clear S;intro h A S p;simp only [BZ];refine ag ay S ?_;clear S;intro h B S q;simp only [BZ,seval];refine step_ret (rj S) ?_;rintro _ h ⟨C,rfl,S⟩;simp only [BZ,gP (l:=s),seval];refine ag (bK (by intro x e;cases e)) S ?_;clear S;intro h z S k;simp only [ae]at S;simp only [BZ,seval];refine ce (decode_ok S hs) ?_;rintro o t h ⟨rfl,P⟩;unfold DecQ at P;obtain⟨a,f,P⟩:=P;cases u:kU s with
 | error e=>
   simp only [u]at P;obtain⟨rfl,S⟩:=P;simp only [BZ];refine cg (vS (d7 (fDec1_no S (i:=3) (j:=2) rfl rfl (by decide)) fun o t h' ⟨a,e,S⟩=>⟨a,_,_,e,cy ?_⟩));simp only [LC,zO,Xi]at S;simp only [if_true];refine(bF (by decide) (by simp only [az,ah,seval];exact jb t33.2.1 (S.ld m3 rfl))).2 ?_;refine(bF (by decide) (by simp only [az,ah,seval];exact jb t29.2.1 (S.ld m2 rfl))).2 ?_;exact bV.2 ⟨S.gr,rfl⟩
 | ok l=>
   simp only [u]at P;obtain⟨v,rfl,S⟩:=P;simp only [BZ,seval];have D:Fl v:=(S.gown _ m0).1.fl;refine au (aw S (i:=3) rfl ?_ ?_ ?_ ono) ?_
   . exact(by simp only [FA0])
   . exact(by assumption)
   . exact Xb (lbt rfl)
   clear S;rintro h ⟨S,m⟩;clear m;simp only [LC,ae,lay,Xo,Xp,seval]at S;simp only [BZ,seval];refine au (aw S (i:=2) rfl ?_ ?_ ?_ ono) ?_
   . exact(by simp only [FA0])
   . exact(by exact cE)
   . exact Xb (lbt rfl)
   clear S;rintro h ⟨S,m⟩;clear m;simp only [LC,ae,lay,Xo,Xp,seval]at S;simp only [BZ];refine ig (un_fn (d7 (fDec1_ok S.ok) fun o t h' ⟨a,e,g⟩=>⟨a,e,cy ⟨rfl,?_⟩⟩));replace S:=S.call g;refine(bF (by decide) (by simp only [az,ah,seval];exact jb t33.2.1 (S.ld m3 rfl))).2 ?_;refine(bF (by decide) (by simp only [az,ah,seval];exact jb t29.2.1 (S.ld m2 rfl))).2 ?_;exact bV.2 ⟨S.gr,v,rfl,(S.gown _ m0).1.slk rfl ck (by decide),fun c w=>by
    have y:=S.gown _ m0;rcases y.1 with⟨e,_⟩|⟨b,n,e,_⟩
    . have e:v=_:=e;subst e;exact w.elim
    . have e:v=.slice (some ⟨b,0,some 2⟩) n n:=e;subst e;exact(y.2 b rfl).elim (fun h=>by have:c=b:=w.symm;omega) (fun h=>h.elim)⟩
structure Tab where
 l:List Int
 to:List (List Int)
 fr:List (List Int)
variable{T:Tab}
structure Img where
 g:Gra
 T:Option Tab
 C:Option (List Int×Bs)
variable{I:Img}
theorem vZ{a:Type}{p:a->Bs}(l:List a)(b: ∀x∈l,(p x).length=w):(l.flatMap p).length=w*l.length:=by
 induction l with
 |nil=>rfl|cons x l c=>rw [zO,Xh,b x (by simp),c (fun y d=>b y (by simp [d])),XX,Nat.mul_succ];omega
def mix:List (List Int)->List (List Int)->List (List Int)
 |a::l,b::m=>a::b::mix l m|_,_=>[]
def evens:List (List Int)->List (List Int)
 |a::_::l=>a::evens l|l=>l
def odds:List (List Int)->List (List Int)
 |_::b::l=>b::odds l|_=>[]
theorem uu{l m:List (List Int)}(h:l.length=m.length):(mix l m).length=2*l.length:=by
 induction l generalizing m with
 |nil=>cases m<;>rfl
 | cons a l c=>
   cases m with
   |nil=>cases h
   |cons b m=>simp only [mix,XX];rw [c (by simpa using h)];omega
theorem Ak{l m:List (List Int)}{x:List Int}(h:x∈mix l m):x∈l\/x∈m:=by
 induction l generalizing m with
 |nil=>cases m<;>cases h
 | cons a l c=>
   cases m with
   |nil=>cases h
   | cons b m=>
     simp only [mix,X3]at h⊢;rcases h with h|h|h
     . exact .inl (.inl h)
     . exact .inr (.inl h)
     . exact(c h).imp .inr .inr
def m8(v:Int):Bs:=aY 4 v.toNat
def markG(s:Bs):Int:=(aS s:Int)
theorem qM(v:Int):(m8 v).length=4:=bq 4 _
def iV(r:List Int):Bs:=r.flatMap pZ
def qk(T:Tab):Bs:=aY 1 T.l.length++(T.l.flatMap m8++(mix T.to T.fr).flatMap iV)
def dY(s:Bs):Nat:=aS (s.take 1)
def sX(N:Nat)(s:Bs):List (List Int):=jL (jL get8 8 N) (8*N) (2*dY s) (s.drop (1+4*dY s))
def dN(N:Nat)(s:Bs):Tab:=⟨jL markG 4 (dY s) (s.drop 1),evens (sX N s),odds (sX N s)⟩
structure TabL(N:Nat)(T:Tab):Prop where
 l1:1<=T.l.length
 l2:T.l.length<=16
 to:T.to.length=T.l.length
 fr:T.fr.length=T.l.length
 rTo: ∀r∈T.to,r.length=N/\ ∀x∈r,0<=x/\x<=72057594037927936
 rFr: ∀r∈T.fr,r.length=N/\ ∀x∈r,0<=x/\x<=72057594037927936
 rl: ∀x∈T.l,0<=x/\x<4294967296
theorem sG{r:List Int}(h:r.length=N):(iV r).length=8*N:=by unfold iV;rw [eH sq,h]
theorem BU(h:TabL N T):(qk T).length=1+T.l.length*(4+16*N):=by have c: ∀r∈mix T.to T.fr,r.length=N:=fun r a=>(Ak a).elim (fun b=>(h.rTo r b).1) (fun b=>(h.rFr r b).1);have:=h.to;have:=h.fr;unfold qk;rw [Xh,Xh,bq,eH qM,vZ _ (fun r a=>sG (c r a)),uu (by omega),h.to,Nat.mul_add,Nat.mul_left_comm (8*N),Yp (8*N),<-Y2,Yp T.l.length 4,show T.l.length*(16*N)=2*T.l.length*(8*N) by rw [show 16*N=2*(8*N) by omega,<-Y2,Yp T.l.length 2],<-Y2]
def gp(m:List Int):Bs:=m.map fun c=>UInt8.ofNat c.toNat
def eJ(s:Bs):List Int:=s.map fun b=>(b.toNat:Int)
def gL(I:Img):List Sec:=(1,ji I.g)::((match I.T with|some T=>[(2,qk T)]|none=>[])++(match I.C with|some (m,f)=>[(3,gp m),(4,f)]|none=>[]))
theorem AZ{j:Hp}(D:OZ j){k:Gra}(q:jZ k){E:Nat}(F:cI j E (ptrTo y) k):Ret zB 26 [ptrTo y] j fun r h'=>Gr j h'/\ ∃l m f,r=gc k l m f/\cL h' l m f k/\(∀c,aA l c\/aA m c\/aA f c->j.n<=c)/\WrK h' 3 cR f k.arcs/\ ∀c,aA f c-> ¬aA l c/\ ¬aA m c:=by
 have S:=Si D;obtain⟨b,l,m,f,N,O,e,r,G,_⟩:=F.ex;cases e;have H:=r.load (o:=0) (n:=4) (lbt rfl);refine erA (n:=11) (rs:=[.cell 2 37]) e26 ?_;simp only [BZ];refine ag ay S ?_;clear S;intro h z S A;simp only [BZ,S.old H (fun h=>h),Xm,XA,XI,seval];have I:=S.fr.n;have B:Ret zB 47 [gc k l m f] h _:=own_ok S.ok q (G.gr S.gr);unfold gc at B;refine step_ret B ?_;rintro v h ⟨g,s,t,u,rfl,a,x,w,d⟩;have J:=a.X.fl;have K:=a.Y.fl;have L:=a.A.fl;have M:=(S.row (b:=z) m0).lt S.ok;replace S:=S.call g;simp only [BZ,seval];refine au (stA S (i:=0) t37.2.1 (by simp only [ae,X4,Yd,J.2.1,K.2.1,L.2.1,Xl];rfl)) ?_;clear S;rintro h' ⟨S,C⟩;simp only [LC,ae,lay,Xo,Xp,seval]at S;simp only [BZ,ab];refine(bF (by decide) (by simp only [az,ah,seval];exact bz t37.1 t37.2.1 (S.lds (b:=z) (o:=0) (n:=4) m0 (lbt rfl)))).2 (bV.2 ?_);exact⟨S.gr,s,t,u,rfl,a.mo C (fun c p e=>by have:=x c p;omega),fun c p=>Xe I (x c p),w.mo C (fun c p e=>by have:=x c (.inr (.inr p));omega),d⟩
theorem Av(h:z<256):am .u8 (z:Int)=(z:Int):=by
 show am .u8 (.ofNat z)=_;unfold am;simp only [hf,sgn,pw];have:Nat.blt z 256=true:=by rw [Nat.blt_eq];exact h
 rw [this];rfl
section
variable{E:Env}{t:TypeId}{p q:Operand}{x y i:Nat}
theorem bits8(op:BinOp)(a:x<256)(b:y<256):jw op .u8 (x:Int) (y:Int)=match op with
 | .and=>some (am .u8 ((Nat.land x y:Nat):Int))| .or=>some (am .u8 ((Nat.lor x y:Nat):Int))| .xor=>some (am .u8 ((Nat.xor x y:Nat):Int))| .andNot=>some (am .u8 ((Nat.xor x (Nat.land x y):Nat):Int))|_=>none:=by
 show jw op .u8 (.ofNat x) (.ofNat y)=_;have c:Nat.blt x (pw .u8)=true:=by rw [Nat.blt_eq];exact a
 have d:Nat.blt y (pw .u8)=true:=by rw [Nat.blt_eq];exact b
 unfold jw;simp only [c,d,Bool.and_self,cond_true];cases op<;>rfl
theorem b_or8(a:x<256)(b:y<256):bQ E .or t p q (.int .u8 (x:Int)) (.int .u8 (y:Int))=some (.int .u8 ((x|||y:Nat):Int)):=by show(bif kr .u8 .u8 then(jw .or .u8 (x:Int) (y:Int)).map (Value.int .u8 ·)else none)=_;rw [bits8 .or a b];simp only [];rw [show Nat.lor x y=x|||y from rfl,Av (Nat.or_lt_two_pow (n:=8) a b)];rfl
theorem A8(a:x<256)(b:y<256):bQ E .andNot t p q (.int .u8 (x:Int)) (.int .u8 (y:Int))=some (.int .u8 ((x ^^^(x&&& y):Nat):Int)):=by show(bif kr .u8 .u8 then(jw .andNot .u8 (x:Int) (y:Int)).map (Value.int .u8 ·)else none)=_;rw [bits8 .andNot a b];simp only [];rw [show Nat.xor x (Nat.land x y)=x ^^^(x&&& y)from rfl,Av (XO (n:=8) a (XN Yh a))];rfl
theorem b_shl8{k:IntKind}(a:i<8):bQ E .shl t p q (.int .u8 1) (.int k (i:Int))=some (.int .u8 ((2 ^i:Nat):Int)):=by
 have:i=0\/i=1\/i=2\/i=3\/i=4\/i=5\/i=6\/i=7:=by omega
 rcases this with rfl|rfl|rfl|rfl|rfl|rfl|rfl|rfl<;>rfl
end
theorem pow8(h:i<8):2 ^i<256:=Nat.pow_lt_pow_right (by decide) h
def setB(x i:Nat):Nat:=(x ^^^(x&&& 2 ^i))|||2 ^i
theorem setB_at(x i j:Nat):(setB x i).testBit j=if j=i then true else x.testBit j:=by
 unfold setB;rw [Nat.testBit_or,Nat.testBit_xor,Nat.testBit_and,Nat.testBit_two_pow];by_cases e:j=i
 . subst e;simp
 . have a: ¬i=j:=fun h=>e h.symm;simp [e,a]
theorem setB_lt(a:x<256)(b:i<8):setB x i<256:=
 Nat.or_lt_two_pow (n:=8) (XO (n:=8) a (XN Yh a)) (pow8 b)
def ir(n:Nat)(B:Nat->Nat):List Value:=(zM n).map fun j=>.int .u8 (B j:Nat)
theorem pW:(ir n B).length=n:=by simp [ir]
theorem xE(h:j<n):(ir n B)[j]? =some (.int .u8 (B j:Nat)):=qa (F:=fun j=>Value.int .u8 ((B j:Nat):Int)) h
theorem yw:(ir n B).set j (.int .u8 (x:Nat))=ir n (jz B j x):=by have:=mV (N:=n) (k:=j) (F:=fun j=>Value.int .u8 ((B j:Nat):Int)) (F':=fun u=>Value.int .u8 ((jz B j x u:Nat):Int)) (fun i _ a=>by simp [jz,a]);unfold ir;rw [<-this];simp [jz]
structure jm(h:Hp)(bp bb rows wide long:Nat)(B:Nat->Nat):Prop where
 r:Row h bp [.int .i64 rows,.int .i64 wide,.int .i64 long,.slice (some ⟨bb,0,none⟩) (rows*long) (rows*long)] 1
 b:Row h bb (ir (rows*long) B) 1
 lt: ∀j,B j<256
theorem jm.gr{h h':Hp}{c d rows a b:Nat}{B:Nat->Nat}(m:jm h c d rows a b B)(g:Gr h h'):jm h' c d rows a b B:=⟨m.r.gr g,m.b.gr g,m.lt⟩
theorem jm.bits{a:Nat}(m:jm h c d rows a b B):sg h (ptrTo c) rows a true:=.inr ⟨c,_,_,rfl,m.r,rfl⟩
def kD(B:Nat->Nat)(a r i:Nat):Bool:=(B (r*a+i/8)).testBit (i%8)
theorem Do(g:i/8<b)(j:c/8<b):kD (jz B (r*b+i/8) (setB (B (r*b+i/8)) (i%8))) b d c=if d=r/\c=i then true else kD B b d c:=by
 unfold kD jz;by_cases e:d*b+c/8=r*b+i/8
 . rw [if_pos e,setB_at];have k:d=r:=(by have a:(d*b+c/8)/b=(r*b+i/8)/b:=(by rw [e]);rw [Yp d,Yp r,Nat.mul_add_div (by omega),Nat.mul_add_div (by omega),Nat.div_eq_of_lt g,Nat.div_eq_of_lt j]at a;omega);subst k;have e8:c/8=i/8:=(by omega);rw [e];by_cases f:c%8=i%8
   . rw [if_pos f,if_pos ⟨rfl,by omega⟩]
   . rw [if_neg f,if_neg (fun h=>f (by rw [h.2]))]
 . rw [if_neg e,if_neg (fun h=>e (by rw [h.1,h.2]))]
theorem C5{f:Hp}(u:OZ f){a:Nat}(v:a<=300)(C:w<=1000):Ret zB 65 [.int .i64 (a:Nat),.int .i64 (w:Nat)] f fun r h'=>Gr f h'/\ ∃c d,r=ptrTo c/\f.n<=c/\f.n<=d/\c≠d/\jm h' c d a w ((w+7)/8) (fun _=>0):=by
 have S:=Si u;have l: ¬((a:Int)<0):=by omega
 have m: ¬((w:Int)<0):=by omega
 have o: ¬((67108864:Int)<(w:Int)):=by omega
 have p:am .i64 ((w:Int)+8)=(w:Int)+8:=by rw [wrap64]<;>omega
 have q:am .i64 ((w:Int)+8-1)=((w+7:Nat):Int):=by rw [wrap64]<;>omega
 have i:(w+7)/8<=126:=by omega
 have j:am .i64 ((((w+7:Nat):Int)).tdiv 8)=(((w+7)/8:Nat):Int):=by rw [XU (by omega),show(((w+7:Nat):Int)/8)=(((w+7)/8:Nat):Int) by omega,wrap64]<;>omega
 generalize D:(w+7)/8=K at i j;have E:a*K<=300*126:=YV v i;have s:am .i64 ((a:Int)*(K:Int))=((a*K:Nat):Int):=by rw [<-Int.natCast_mul,wrap64]<;>omega
 have mk: ∀(n:Nat),bA [Value.int .u8 0] n=ir n (fun _=>0):=fun n=>by rw [mE];unfold ir;rw [YO,XG];rfl
 by_cases t:0<(K:Int)
 . have y:(268435456:Int).tdiv (K:Int)=((268435456/K:Nat):Int):=(by rw [XU (by decide)];rfl);have F:268435456/126<=268435456/K:=Nat.div_le_div_left i (by omega);have G:268435456/K<=268435456:=YL _ _;have H:(268435456/126:Nat)=2130440:=rfl;have z:am .i64 ((268435456:Int).tdiv (K:Int))=(268435456:Int).tdiv (K:Int):=(by rw [y,wrap64]<;>omega);have A: ¬((268435456:Int).tdiv (K:Int)<(a:Int)):=(by omega);have B:(K:Int)≠0:=(by omega);refine erA (n:=37) (rs:=[.tmp 4]) e65 ?_;simp only [BZ,l,m,o,p,q,j,z,s,t,A,iD (n:=8) (by decide),iD (n:=(K:Int)) B,seval];refine ag (kY (by exact t22.1) (by exact Yt) (by omega) (by omega)) S ?_;clear S;intro h d S b;rw [Xw,mk]at S;simp only [BZ,Xw,seval];refine ag (bK (by intro x e;cases e)) S ?_;clear S;intro h c S g;simp only [ae]at S;simp only [BZ,ab,seval];have k:=S.apart;exact⟨S.gr,c,d,rfl,by have:=S.fr.n;omega,b,fun e=>(by subst e;simp [keys]at k),⟨S.row m0,S.row m1,fun _=>Nat.zero_lt_succ _⟩⟩
 . refine erA (n:=37) (rs:=[.tmp 4]) e65 ?_;simp only [BZ,l,m,o,p,q,j,s,t,iD (n:=8) (by decide),seval];refine ag (kY (by exact t22.1) (by exact Yt) (by omega) (by omega)) S ?_;clear S;intro h d S b;rw [Xw,mk]at S;simp only [BZ,Xw,seval];refine ag (bK (by intro x e;cases e)) S ?_;clear S;intro h c S g;simp only [ae]at S;simp only [BZ,ab,seval];have k:=S.apart;exact⟨S.gr,c,d,rfl,by have:=S.fr.n;omega,b,fun e=>(by subst e;simp [keys]at k),⟨S.row m0,S.row m1,fun _=>Nat.zero_lt_succ _⟩⟩
theorem set1_ok{c:Hp}(q:OZ c){a:Nat}(R:Row c a (ir n B) 1)(d:j<n)(f:B j<256)(s:i<8)(t:c.load e 0 1=some [.bool true])(g:e≠a):Ret zB 70 [.pointer (some ⟨a,j,none⟩),.int .u8 ((2 ^i:Nat):Int),ptrTo e] c fun r h'=>Mo (· =a) c h'/\r=.bool true/\Row h' a (ir n (jz B j (setB (B j) i))) 1:=by
 have S:=St.init1 q (o:=.row (ir n B) 1) R;have m:=S.ld (b:=a) (o:=j) m0 (xE d);have p:=pow8 s;have v:(B j ^^^(B j&&& 2 ^i))<256:=XO (n:=8) f (XN Yh f);refine erA (n:=19) (rs:=[.tmp 5]) e70 ?_;simp only [BZ,m,A8 f p,seval];refine au (aw S (i:=0) rfl Tryz.t5.2.2.1 cE (by rw [pW];exact d) ono) ?_;clear S m;rintro h ⟨S,w⟩;simp only [LC]at S;rw [yw]at S;have k:=S.ld (b:=a) (o:=j) m0 (xE d);have x:jz B j (B j ^^^(B j&&& 2 ^i)) j=(B j ^^^(B j&&& 2 ^i)):=by simp [jz]
 rw [x]at k;have l:=S.old t g;simp only [BZ,l,k,b_or8 v p,seval];refine au (aw S (i:=0) rfl Tryz.t5.2.2.1 cE (by rw [pW];exact d) ono) ?_;clear S k;rintro h ⟨S,w⟩;simp only [LC]at S;rw [show(((B j ^^^(B j&&& 2 ^i))|||2 ^i:Nat):Int)=((setB (B j) i:Nat):Int)from rfl,yw]at S;have y:jz (jz B j (B j ^^^(B j&&& 2 ^i))) j (setB (B j) i)=jz B j (setB (B j) i):=by funext u;unfold jz;split<;>rfl
 rw [y]at S;simp only [BZ,ab,seval];exact⟨S.fr,S.row m0⟩
section
variable{h0:Hp}{bp bb rows wide long:Nat}{B:Nat->Nat}
theorem yF(e:r<rows)(g:i<wide)(a:rows<=100)(b:wide<=1000)(c:long=(wide+7)/8):am .i64 ((r:Int)*(long:Int))=((r*long:Nat):Int)/\am .i64 ((i:Int).tdiv 8)=((i/8:Nat):Int)/\am .i64 (((r*long:Nat):Int)+((i/8:Nat):Int))=((r*long+i/8:Nat):Int)/\(i:Int).tmod 8=((i%8:Nat):Int)/\r*long+i/8<rows*long/\i/8<long/\i%8<8:=by
 have f:long<=126:=by omega
 have h:r*long<=100*126:=YV (by omega) f;have d:i/8<long:=by omega
 have j:r*long+long<=rows*long:=by rw [<-YF];exact Yf _ e
 refine⟨by rw [<-Int.natCast_mul,wrap64]<;>omega,?_,by rw [wrap64]<;>omega,rfl,by omega,d,by omega⟩;rw [show(i:Int).tdiv 8=((i/8:Nat):Int)from rfl,wrap64]<;>omega
theorem bSet_ok(w:OZ h0)(m:jm h0 bp bb rows wide long B)(l:bp≠bb)(D:r<rows)(E:i<wide)(b:rows<=100)(d:wide<=1000)(e:long=(wide+7)/8):Ret zB 21 [ptrTo bp,.int .i64 (r:Nat),.int .i64 (i:Nat),.bool true] h0 fun v h'=>Mo (· =bb) h0 h'/\v=.bool true/\jm h' bp bb rows wide long (jz B (r*long+i/8) (setB (B (r*long+i/8)) (i%8))):=by
 obtain⟨F,G,H,I,x,n6,s⟩:=yF D E b d e;have J: ∀{h:Hp} {p:Nat},Gr h0 h->h.load p 0 1=some [.bool true]->p≠bb->Ret zB 69 [ptrTo bp,.int .i64 (r:Nat),.int .i64 (i:Nat),.func (.func 70) #[] #[ptrTo p]] h fun v h'=>Mo (· =bb) h h'/\v=.bool true/\Row h' bb (ir (rows*long) (jz B (r*long+i/8) (setB (B (r*long+i/8)) (i%8)))) 1:=by
  intro h p g K L;have S:=Si g.ok;have k:=m.gr g;have N: ¬(r:Int)<0:=by omega
  have O: ¬(rows:Int)<=(r:Int):=by omega
  have P: ¬(i:Int)<0:=by omega
  have Q: ¬(wide:Int)<=(i:Int):=by omega
  have T:=k.r.load1 (o:=2) rfl;have U:=k.r.load1 (o:=3) rfl;have V:=k.r.lt g.ok;refine erA (n:=46) (rs:=[.tmp 8]) e69 ?_;simp only [BZ,N,seval];refine ar (nQ S.ok k.bits) ?_;intro h1 t;replace S:=S.call t;simp only [BZ,O,P,seval];refine ar (qC S.ok (k.gr t).bits) ?_;intro W y;replace S:=S.call y;have a:=t.trans y;have X:=a.load T;have Y:=a.load U;simp only [BZ,Q,seval];refine av (aB rfl) (q:=0) (ps:=[]) (by kernel_rfl) ?_;simp only [BZ,cls,X,Y,F,G,H,I,x,iD (n:=8) (by decide),fS (n:=8) (by decide),b_shl8 s,seval];refine cF (set1_ok S.ok (k.b.gr a) x (k.lt _) s (a.load K) L) ?_;rintro v Z ⟨z,rfl,R3⟩;have vv:leaves W Z bp=true:=iG (z.get bp (Xq V a.n) l);simp only [BZ,cls,ab,seval];exact⟨(a.fr (M:=(· =bb))).trans z (fun c u=>.inl u),R3⟩
 have S:=Si w;have zb:=m.b.lt w;refine erA (n:=14) (rs:=[.tmp 8]) e21 ?_;simp only [BZ,seval];refine ag (dU (by exact qi)) S ?_;clear S;intro h p S A;simp only [BZ,seval];have k7:=S.fr.n;refine step_ret (J S.gr (S.ld m0 rfl) (by omega)) ?_;rintro v h ⟨f,rfl,R⟩;simp only [BZ,ab,seval];have C:Mo (· =bb) h0 h:=(S.gr.fr (M:=(· =bb))).trans f (fun c u=>.inl u);refine⟨C,C.has (o:=.row _ 1) m.r l,R,fun j=>?_⟩;unfold jz
 split
 . exact setB_lt (m.lt _) s
 . exact m.lt _
end
theorem oF:(zM (n+1)).filter f=(zM n).filter f++if f n=true then [n]else []:=by
 rw [XT,List.filter_append];congr 1;by_cases h:f n=true
 . simp [h]
 . simp [h]
theorem ze(h:f i=true): ∀n,i<n->((zM n).filter f)[((zM i).filter f).length]? =some i:=by
 intro n
 induction n with
 |zero=>intro a;omega| succ n b=>
   intro a;rw [oF];by_cases c:i<n
   . have:=b c;rw [XL (List.getElem?_eq_some_iff.1 this).1];exact this
   . have:i=n:=(by omega);subst this;rw [XH (XB _),if_pos h];simp
theorem Af:((zM n).filter f).length<=n:=by have:=YW f (zM n);rwa [XG]at this
theorem rep64_ok(u:OZ a){x:Int}(y:aH a 1 (encI .i64) v [x])(d:1<=N)(z:N<1000):Ret zB 174 [v,.int .i64 N] a fun r h'=>Gr a h'/\ ∃b,r=.slice (some ⟨b,0,none⟩) N N/\a.n<=b/\Row h' b (Xk N (.int .i64 x)) 1:=by
 have S:=Si u;have A: ¬((N:Int)<0):=by omega
 have B: ¬((9223372036854775807:Int)<(N:Int)):=by omega
 have C:am .u64 (N:Int)=(N:Int):=nL (by omega) (by omega);have D:am .u64 1=1:=rfl;have E:am .i64 (N:Int)=(N:Int):=by rw [wrap64]<;>omega
 obtain⟨K,L,M,O,rfl,F,G⟩: ∃b o s c,v=.slice (some ⟨b,o,s⟩) 1 c/\1<=c/\a.load b o 1=some [.int .i64 x]:=by
  rcases y with⟨_,h⟩|⟨b,o,s,c,rfl,H,I⟩
  . cases h
  . exact⟨b,o,s,c,rfl,H,I⟩
 refine erA (n:=48) (rs:=[.tmp 4]) e174 ?_;simp only [BZ,aV,ax,a9,Xn,A,C,D,seval];refine ar (mul_ok S.ok z) ?_;intro h g;replace S:=S.call g;simp only [BZ,aV,ax,a9,B,E,seval];refine ag (kY (by exact t23.1) (by exact X8) (by omega) (by omega)) S ?_;clear S;intro h m S f;rw [Xw,mE]at S;simp only [BZ,Xw,seval];refine dq (S.copyO (i:=0) (l:=Xk 1 (.int .i64 x)) rfl t23.1 Tryz.t2.2.2.1 (by rw [kw d];decide) (by rw [kw d];exact S.old G (fun h=>h)) (by simp;omega) rfl) ?_;clear S;rintro h w ⟨rfl,S⟩;simp only [LC]at S;rw [show Xk N (Value.int .i64 0)=Xk 0 (.int .i64 x)++Xk N (.int .i64 0) by simp,xz d]at S;rw [kw d];simp only [BZ,Xn,seval];refine aD (fun(n:Nat) p h=>1<=n/\n<=N/\St NoM a h [(m,.row (Xk n (.int .i64 x)++Xk (N-n) (.int .i64 0)) 1)] []/\p 7=.slice (some ⟨m,0,none⟩) N N/\p 8=.int .i64 n) (fun n=>N-n) ?_ 1 _ _ ?_
 . clear S;intro n J p h ⟨hn1,hn,S,r7,r8⟩;by_cases hlt:n<N
   . simp only [BZ,r7,r8,aq,hlt,seval];refine av (aB rfl) (q:=0) (ps:=[]) (by kernel_rfl) ?_;simp only [BZ,cls,X6,Yi,r7,r8,Cz t23.1 Tryz.t2.2.2.1 hlt,AH t23.1 Tryz.t2.2.2.1 (Nat.le_of_lt hlt),seval];have t:0<eK n (N-n):=by
      rcases YG n (N-n)with h|h
      . rw [kw h];omega
      . rw [xm h];omega
     have j:eK n (N-n)<=N-n/\eK n (N-n)<=n:=by
      rcases YG n (N-n)with h|h
      . rw [kw h];omega
      . rw [xm h];omega
     refine jo (S.copyO (i:=0) (l:=Xk (eK n (N-n)) (.int .i64 x)) rfl t23.1 Tryz.t2.2.2.1 t ?_ (by simp;omega) (by simp;right;rfl)) ?_
     . rw [(S.row m0).load (by simp;omega),Xr,Xm];congr 1;rw [X9 (by simp;omega),Y3];congr 1;omega
     clear S;rintro h w ⟨rfl,S⟩;simp only [LC]at S;rw [xz j.1]at S;generalize eK n (N-n)=k at S t j;have w:am .i64 ((n:Int)+(k:Int))=((n+k:Nat):Int):=(by rw [wrap64]<;>omega);simp only [BZ,cls,w,seval];exact J (n+k) _ _ (by omega) ⟨by omega,by omega,by rw [show N-(n+k)=N-n-k by omega];exact S,by simp [ao,r7]⟩
   . simp only [BZ,ab,r7,r8,aq,hlt,seval];have e:n=N:=(by omega);subst e;have R:=S.row (b:=m) m0;rw [YC,Yr,XS]at R;exact⟨S.gr,m,rfl,f,R⟩
 . exact⟨XB _,d,by simpa using S,by simp [ao]⟩
theorem repI_ok(u:OZ a){x:Int}(y:aH a 1 (encI .i64) v [x])(d:1<=N)(z:N<1000):Ret zB 175 [v,.int .i64 N] a fun r h'=>Gr a h'/\ ∃b,r=.slice (some ⟨b,0,none⟩) N N/\a.n<=b/\Row h' b (Xk N (.int .i64 x)) 1:=by
 have S:=Si u;have A: ¬((N:Int)<0):=by omega
 have B: ¬((9223372036854775807:Int)<(N:Int)):=by omega
 have C:am .u64 (N:Int)=(N:Int):=nL (by omega) (by omega);have D:am .u64 1=1:=rfl;have E:am .i64 (N:Int)=(N:Int):=by rw [wrap64]<;>omega
 obtain⟨K,L,M,O,rfl,F,G⟩: ∃b o s c,v=.slice (some ⟨b,o,s⟩) 1 c/\1<=c/\a.load b o 1=some [.int .i64 x]:=by
  rcases y with⟨_,h⟩|⟨b,o,s,c,rfl,H,I⟩
  . cases h
  . exact⟨b,o,s,c,rfl,H,I⟩
 refine erA (n:=48) (rs:=[.tmp 4]) e175 ?_;simp only [BZ,aV,ax,a9,Xn,A,C,D,seval];refine ar (mul_ok S.ok z) ?_;intro h g;replace S:=S.call g;simp only [BZ,aV,ax,a9,B,E,seval];refine ag (kY (by exact t38.1) (by exact Yn) (by omega) (by omega)) S ?_;clear S;intro h m S f;rw [Xw,mE]at S;simp only [BZ,Xw,seval];refine dq (S.copyO (i:=0) (l:=Xk 1 (.int .i64 x)) rfl t38.1 Tryz.t3.2.2.1 (by rw [kw d];decide) (by rw [kw d];exact S.old G (fun h=>h)) (by simp;omega) rfl) ?_;clear S;rintro h w ⟨rfl,S⟩;simp only [LC]at S;rw [show Xk N (Value.int .i64 0)=Xk 0 (.int .i64 x)++Xk N (.int .i64 0) by simp,xz d]at S;rw [kw d];simp only [BZ,Xn,seval];refine aD (fun(n:Nat) p h=>1<=n/\n<=N/\St NoM a h [(m,.row (Xk n (.int .i64 x)++Xk (N-n) (.int .i64 0)) 1)] []/\p 7=.slice (some ⟨m,0,none⟩) N N/\p 8=.int .i64 n) (fun n=>N-n) ?_ 1 _ _ ?_
 . clear S;intro n J p h ⟨hn1,hn,S,r7,r8⟩;by_cases hlt:n<N
   . simp only [BZ,r7,r8,aq,hlt,seval];refine av (aB rfl) (q:=0) (ps:=[]) (by kernel_rfl) ?_;simp only [BZ,cls,X6,Yi,r7,r8,Cz t38.1 Tryz.t3.2.2.1 hlt,AH t38.1 Tryz.t3.2.2.1 (Nat.le_of_lt hlt),seval];have t:0<eK n (N-n):=by
      rcases YG n (N-n)with h|h
      . rw [kw h];omega
      . rw [xm h];omega
     have j:eK n (N-n)<=N-n/\eK n (N-n)<=n:=by
      rcases YG n (N-n)with h|h
      . rw [kw h];omega
      . rw [xm h];omega
     refine jo (S.copyO (i:=0) (l:=Xk (eK n (N-n)) (.int .i64 x)) rfl t38.1 Tryz.t3.2.2.1 t ?_ (by simp;omega) (by simp;right;rfl)) ?_
     . rw [(S.row m0).load (by simp;omega),Xr,Xm];congr 1;rw [X9 (by simp;omega),Y3];congr 1;omega
     clear S;rintro h w ⟨rfl,S⟩;simp only [LC]at S;rw [xz j.1]at S;generalize eK n (N-n)=k at S t j;have w:am .i64 ((n:Int)+(k:Int))=((n+k:Nat):Int):=(by rw [wrap64]<;>omega);simp only [BZ,cls,w,seval];exact J (n+k) _ _ (by omega) ⟨by omega,by omega,by rw [show N-(n+k)=N-n-k by omega];exact S,by simp [ao,r7]⟩
   . simp only [BZ,ab,r7,r8,aq,hlt,seval];have e:n=N:=(by omega);subst e;have R:=S.row (b:=m) m0;rw [YC,Yr,XS]at R;exact⟨S.gr,m,rfl,f,R⟩
 . exact⟨XB _,d,by simpa using S,by simp [ao]⟩
def rA(A:List Arc)(f:Arc->Nat)(a:List Nat):List (List Value):=a.map fun(id:Nat)=>[.int .i64 id,.agg ⟨cR ⟨0,f (A.getD id default),(A.getD id default).w⟩⟩]
theorem arcs_ok'(k:OZ a){i j:Value}(l:Fl p)(m:Fl i)(o:Fl j):Ret zB 178 [p,i,j] a fun v h'=>Gr a h'/\ ∃b c d,v=.func (.func 217) #[] #[ptrTo b,ptrTo c,ptrTo d]/\a.n<=b/\a.n<=c/\a.n<=d/\h'.load b 0 1=some [i]/\h'.load c 0 1=some [p]/\h'.load d 0 1=some [j]:=by have S:=Si k;refine erA (n:=8) (rs:=[.tmp 6]) e178 ?_;simp only [BZ,seval];refine ag (dU (by assumption)) S ?_;clear S;intro h c S e;simp only [BZ,if_false,seval];refine ag (dU (by assumption)) S ?_;clear S;intro h b S f;simp only [BZ,if_false,seval];refine ag (dU (by assumption)) S ?_;clear S;intro h d S g;simp only [BZ,ab,seval];exact⟨S.gr,b,c,d,rfl,f,e,g,S.ld m1 rfl,S.ld m2 rfl,S.ld m0 rfl⟩
theorem arcs_it{e:Hp}(G:OZ hq)(l:OZ e)(Q:ia hq e)(R:hq.n<=e.n){t:Value}{k:Gra}{K:Nat}(T:cI hq K p k){d:List Nat}(L:aH e 1 gC t d)(z: ∀id∈d,id<k.arcs.length)(M:d.length<1000){f:Arc->Nat}(U:KeyF zB g f)(V:e.load u 0 1=some [t])(W:e.load x 0 1=some [p])(e3:e.load y 0 1=some [.func (.func g) #[] #[]]):vb zB 217 [] [ptrTo u,ptrTo x,ptrTo y] e (fun c=>c=u\/c=x\/c=y\/aA t c\/c<hq.n) (rA k.arcs f d):=by
 intro X J Z hz Y h F s D;refine enA (n:=32) (rs:=[]) e217 ?_;have N:=s.load l V (.inl rfl);simp only [BZ,N,L.lenq,seval];refine aD (fun(i:Nat) m h=>i<=d.length/\ ∃F,ItS e (fun c=>c=u\/c=x\/c=y\/aA t c\/c<hq.n) h F/\J i h F/\m 0=.func (.yield X) #[] #[]/\m 1=ptrTo u/\m 2=ptrTo x/\m 3=ptrTo y/\m 9=t/\m 10=.int .i64 d.length/\m 11=.int .i64 i) (fun i=>d.length-i) ?_ 0 _ _ ?_
 . clear N;intro i ih m h ⟨hi,F,s,D,r0,r1,r2,r3,r9,r10,r11⟩;by_cases hlt:i<d.length
   . obtain⟨c,o,A,H⟩:=(s.sl l L (fun b h=>.inr (.inr (.inr (.inl h))))).ix (kd:=.i64) jt hlt;have l2:=s.load l W (.inr (.inl rfl));have l3:=s.load l e3 (.inr (.inr (.inl rfl)));have B:=z _ (Xu hlt);have nt:cI h K p k:=T.keep G (s.keep Q R (fun c hc=>.inr (.inr (.inr (.inr hc)))));have w:am .i64 ((i:Int)+1)=((i+1:Nat):Int):=(by rw [wrap64]<;>omega);have S:=Si s.ok;simp only [BZ,r2,r9,r10,r11,aq,hlt,A,H,gC,l2,seval];refine step_ret (tM S.ok nt B) ?_;rintro v h2 ⟨r,rfl⟩;replace S:=S.call r;clear r;simp only [BZ,seval];refine ag ay S ?_;clear S;intro h I S O;simp only [BZ,cR,seval];refine au (stA S (i:=0) t81.2.1) ?_;clear S;rintro h ⟨S,mo⟩;clear mo;simp only [LC,ae,lay,Xo,Xp,seval]at S;simp only [BZ,seval];refine av (aB rfl) (q:=0) (ps:=[(4,6)]) (by kernel_rfl) ?_;simp only [BZ,cls,r0,r3,S.old l3 (fun h=>h),S.lds (b:=I) (o:=0) (n:=3) m0 (lbt rfl),seval];have C:=(S.row (b:=I) m0).lt S.ok;refine da (U _ k.arcs[d[i]] S.ok) ?_;intro P r;have E:=aI r C;replace S:=S.call r;clear r;simp only [BZ,cls,S.ld (b:=I) (o:=2) m0 rfl,seval];have gd:k.arcs.getD d[i] default=k.arcs[d[i]]:=(by simp [Xf,B]);have hx:(rA k.arcs f d)[i]? =some [.int .i64 (d[i]:Nat),.agg ⟨[.int .i64 0,.int .i64 (f k.arcs[d[i]]:Nat),.int .i64 (k.arcs[d[i]].w:Nat)]⟩]:=(by unfold rA;rw [XD,Xj hlt];simp only [X6,gd];rfl);refine dn_yield hz Y (s.gr S.gr) (Y.gr _ _ _ _ D S.gr) (j:=i) hx ?_ ?_
     . intro P F' a s' _ _;simp only [BZ,cls,r11,w,seval];refine⟨by simp only [aR,aZ,aM,bo,aP,ne_eq,not_false_eq_true,bj,bH,aQ,aO,bS,cq,az,Xl,r0,r1,r2,r3,ah,aJ E,aG E,seval],?_⟩;exact ih (i+1) _ _ (by omega) ⟨by omega,F',s',a,by simp [ao,r0,r1,ah,r2,r3,r9,r10]⟩
     . intro P a _;simp only [BZ,cls,seval];refine⟨by simp only [aR,aZ,aM,bo,aP,ne_eq,not_false_eq_true,bj,bH,aQ,aO,bS,cq,az,Xl,r0,r1,r2,r3,ah,aJ E,aG E,seval],?_⟩;exact iP rfl ⟨rfl,.inr (.inl ⟨_,rfl,a⟩)⟩
   . simp only [BZ,r10,r11,aq,hlt,seval];have:i=d.length:=(by omega);subst this;exact dG (cy ⟨rfl,_,rfl,rfl,.inl ⟨_,F,rfl,by simpa [rA]using D⟩⟩)
 . exact⟨by omega,F,s,D,by simp [ao,cC,ah]⟩
theorem ints_set(l:List Int)(i:Nat)(x:Int):(ints l).set i (.int .i64 x)=ints (l.set i x):=by
 have a: ∀l:List Int,ints l=l.map fun x=>Value.int .i64 x:=fun l=>by unfold ints;rw [XP,Ys,XP];rfl
 rw [a,a,List.map_set]
theorem reach_ok{j:Hp}(ok:OZ j){E J v arc far:Nat}{O:List Nat}{X:List (Value×Value×Nat)}{f:Int->Option Value}(R:Row j E [p,W,.slice (some ⟨d,0,none⟩) N N,vO,.map (some J)] 1)(H:fD j F p N K)(hN:N<=1000)(a:j.get J=some (.map X c))(MI:fg X c f)(CF:ClF O f)(u:Row j d (ints l) 1)(G:l.length=N)(L:v<N)(U:d∉F)(d2:E∉F)(d3:E≠d):Ret zB 179 [ptrTo E,.int .i64 v,.int .i64 arc,.int .i64 far] j fun _ h'=>Mo (fun c=>c∈F\/c=d) j h'/\ ∃F' q,fD h' F' p N (kC O K v far)/\(∀b∈F',b∈F\/j.n<=b)/\Row h' d (ints q) 1/\q.length=N/\((kC O K v far=K/\q=l)\/(v∉O/\kC O K v far=gz K v (some (far:Int))/\q=l.set v arc)):=by
 have S:=Si ok;have aa:=u.lt ok;have M:=R.load1 (o:=0) rfl;have I:=R.load1 (o:=4) rfl;have l2:=R.load1 (o:=2) rfl;have pp: ∃b,p=ptrTo b:=by obtain⟨b,_,_,e,_⟩:=H.ex;exact⟨b,e⟩
 obtain⟨bp,rfl⟩:=pp;refine erA (n:=59) (rs:=[]) e179 ?_;simp only [BZ,M,seval];refine ar (EG S.ok H) ?_;intro h g;replace S:=S.call g;replace a:h.get J=some (.map X c):=S.gr.at a;have V:=H.gr S.gr;have A:=xG (x:=(v:Int)) t187.1 Tryz.t3.1 (z:=.int .i64 0) (by kernel_rfl) a MI;rw [CF v]at A;replace M:=S.old M (fun h=>h);replace I:=S.old I (fun h=>h);replace l2:=S.old l2 (fun h=>h);replace u:Row h d (ints l) 1:=u.gr S.gr;have R1:=R.gr S.gr;have w:=S.gr;by_cases s:v∈O
 . rw [if_pos s,Yo]at A;simp only [BZ,I,A,seval];exact⟨w.fr,F,l,by unfold kC;rw [if_pos s];exact V,fun b m=>.inl m,u,G,.inl ⟨by unfold kC;rw [if_pos s],rfl⟩⟩
 . rw [if_neg s,YH]at A;have ac:=u.lt w.ok;cases P:K v with
   | none=>
     have y:kC O K v far=gz K v (some (far:Int)):=(by unfold kC;rw [if_neg s,P]);simp only [BZ,M,I,A,YH,Yv,seval];refine step_ret (xK w.ok V L hN P) ?_;rintro r B ⟨t,F',Y,Q⟩;have C:Row B d (ints l) 1:=t.has (o:=.row _ 1) u U;have Z:Row B E [ptrTo bp,W,.slice (some ⟨d,0,none⟩) N N,vO,.map (some J)] 1:=t.has (o:=.row _ 1) R1 d2;have D:=Z.load1 (o:=2) rfl;have S:=St.init1 t.ok (o:=.row _ 1) C;simp only [BZ,D,L,seval];refine au (aw S (i:=0) rfl Tryz.t3.2.2.1 cE (by rw [bR,G];exact L) ono) ?_;clear S;rintro h3 ⟨S,T⟩;simp only [LC]at S;rw [ints_set]at S;simp only [BZ];refine⟨(w.fr.trans (t.mono (fun c a=>.inl a)) (fun c a=>.inl a):Mo (fun c=>c∈F\/c=d) j B).trans T (fun c a=>.inl (.inr a)),F',l.set v arc,by rw [y];exact Y.mo T (fun b m e=>by subst e;rcases Q b m with h|h;exact U h;omega),fun b m=>(Q b m).imp (fun h=>h) (fun h=>Xe w.n h),S.row m0,by rw [List.length_set];exact G,.inr ⟨s,y,rfl⟩⟩
   | some k=>
     by_cases hle:k<=(far:Int)
     . have y:kC O K v far=K:=(by unfold kC;rw [if_neg s,P];simp only [];rw [if_pos hle]);simp only [BZ,I,A,hle,Yo,seval];exact⟨w.fr,F,l,by rw [y];exact V,fun b m=>.inl m,u,G,.inl ⟨y,rfl⟩⟩
     . have y:kC O K v far=gz K v (some (far:Int)):=(by unfold kC;rw [if_neg s,P];simp only [];rw [if_neg hle]);simp only [BZ,M,I,A,hle,Yo,seval];refine step_ret (BL w.ok V hN P (by omega)) ?_;rintro r B ⟨t,Y⟩;have C:Row B d (ints l) 1:=t.has (o:=.row _ 1) u U;have Z:Row B E [ptrTo bp,W,.slice (some ⟨d,0,none⟩) N N,vO,.map (some J)] 1:=t.has (o:=.row _ 1) R1 d2;have D:=Z.load1 (o:=2) rfl;have S:=St.init1 t.ok (o:=.row _ 1) C;simp only [BZ,D,L,seval];refine au (aw S (i:=0) rfl Tryz.t3.2.2.1 cE (by rw [bR,G];exact L) ono) ?_;clear S;rintro h3 ⟨S,T⟩;simp only [LC]at S;rw [ints_set]at S;simp only [BZ];refine⟨(w.fr.trans (t.mono (fun c a=>.inl a)) (fun c a=>.inl a):Mo (fun c=>c∈F\/c=d) j B).trans T (fun c a=>.inl (.inr a)),F,l.set v arc,by rw [y];exact Y.mo T (fun b m e=>by subst e;exact U m),fun b m=>.inl m,S.row m0,by rw [List.length_set];exact G,.inr ⟨s,y,rfl⟩⟩
def seen(A:List Arc)(fs ft:Arc->Nat):List Arc:=A.map fun a=>⟨fs a,ft a,a.w⟩
def NextF(E:Env)(g:FuncId)(a:Gra)(b:Value)(fs:Arc->Nat):Prop:= ∀(h:Hp) (e:Nat),OZ h->cI h e b a-> ∀v,v<a.nodes->Ret E g [b,.int .i64 (v:Nat)] h fun r d=>Gr h d/\aH d 1 gC r (outs a.arcs fs a.arcs.length v)/\ ∀c,aA r c->h.n<=c
def fW(l:List Nat):List Value:=l.flatMap gC
theorem n9(l:List Nat):fW l=l.map fun(x:Nat)=>Value.int .i64 x:=by unfold fW;rw [XP,Ys,XP];rfl
theorem ints_map(l:List Int):ints l=l.map fun x=>Value.int .i64 x:=by unfold ints;rw [XP,Ys,XP];rfl
theorem sj(l:List Nat):(fW l).length=l.length:=by rw [n9,Xv]
theorem nats_app(l:List Nat)(x:Nat):fW (l++[x])=fW l++fW [x]:=by rw [n9,n9,n9,XQ]
theorem seen_at(a:i<A.length):(seen A fs ft).getD i default=⟨fs (A.getD i default),ft (A.getD i default),(A.getD i default).w⟩/\(seen A fs ft).getD i default∈seen A fs ft:=by
 have e:(seen A fs ft).getD i default=⟨fs (A.getD i default),ft (A.getD i default),(A.getD i default).w⟩:=by unfold seen;simp [Xf,a]
 refine⟨e,?_⟩;rw [Xf,Xj (by unfold seen;simpa using a)];exact Xu _
theorem seen_mem{a:Arc}(c:a∈seen A fs ft): ∃i,i<A.length/\(seen A fs ft).getD i default=a:=by obtain⟨i,b,e⟩:=List.mem_iff_getElem.1 c;exact⟨i,by unfold seen at b;simpa using b,by simp [Xf,b,e]⟩
def zh(h':Hp)(m:Nat)(r:Value)(B:List Arc)(s N:Nat):Prop:= ∃a b d D e O,r=.agg ⟨[a,b,d]⟩/\aH h' 1 gC a ((zM N).map D)/\aH h' 1 (encI .i64) b e/\aH h' 1 gC d O/\e.length=N/\(∀v,IsD B s v (D v))/\(∀c,aA a c\/aA b c\/aA d c->m<=c)/\O.Nodup/\ ∀v∈O,v<N
theorem xN(d:OZ a)(H:fD a F p N K)(e:N<=1000):Ret zB 177 [p] a fun r h'=> ∃(v:Nat) (k:Int) (b:Bool),r=.tuple #[.int .i64 (v:Nat),.int .i64 k,.bool b]/\Mo (· ∈F) a h'/\fD h' F p N (if b=true then gz K v none else K)/\(b=true->K v=some k/\ ∀u k',K u=some k'->k<=k')/\(b=false-> ∀v,K v=none):=by
 refine iz (EP d H e) ?_;rintro r h' (⟨rfl,c,g⟩|⟨v,k,rfl,c,f,i,j⟩)
 . exact⟨0,0,false,rfl,g.fr,H.gr g,fun h=>(by cases h),fun _=>c⟩
 . exact⟨v,k,true,rfl,i,j,fun _=>⟨c,fun u k' h=>by have:=f u k' h;omega⟩,fun h=>(by cases h)⟩
def FloodI(t:Hp)(B:List Arc)(s N m g i j k n o w:Nat)(z A:FuncId)(O:List Nat)(ρ:Nat->Value)(d:List Deferred)(h:Hp):Prop:=
 ∃ (e:List Nat) (D:Nat->Nat) (K:Nat->Option Int) (F:List Nat) (p:List (Value×Value×Nat)) (c:Nat) (f:Int->Option Value) (q:List Int) (l:Value) (r:Nat) (v:Nat) (a:Int) (b:Bool),d=e.map tB/\
   St NoM t h ([(r,Ob.row [.int .i64 a] 1),(m,.row [ptrTo g] 1),(g,.row [ptrTo o,.slice (some ⟨k,0,none⟩) N N,.slice (some ⟨j,0,none⟩) N N,l,.map (some i)] 1),(i,.map p c),(j,.row (ints q) 1),(k,.row (fW ((zM N).map D)) 1),(n,.row [.slice none 0 0,.slice none 0 0,.slice none 0 0] 1)]++dV e) [(l,1,fW O)]/\
   (∀x∈F,t.n<=x/\x∉keys ([(r,Ob.row [.int .i64 a] 1),(m,.row [ptrTo g] 1),(g,.row [ptrTo o,.slice (some ⟨k,0,none⟩) N N,.slice (some ⟨j,0,none⟩) N N,l,.map (some i)] 1),(i,.map p c),(j,.row (ints q) 1),(k,.row (fW ((zM N).map D)) 1),(n,.row [.slice none 0 0,.slice none 0 0,.slice none 0 0] 1)]++dV e) [(l,1,fW O)])/\
   q.length=N/\fg p c f/\ClF O f/\Dj B s N O D K (fun _=>False)/\fD h F (ptrTo o) N (if b=true then gz K v none else K)/\(b=true->K v=some a/\ ∀u y,K u=some y->a<=y)/\(b=false-> ∀v,K v=none)/\
   ρ 0=ptrTo w/\ρ 2=.func (.func z) #[ptrTo w] #[]/\ρ 3=.func (.func A) #[] #[]/\ρ 8=ptrTo n/\ρ 9=ptrTo m/\ρ 10=.int .i64 v/\ρ 11=ptrTo r/\ρ 12=.bool b
theorem CE{h0:Hp}(ok:OZ h0){l:Gra}(ai:Good l){pn:Value}(hn:cI h0 nb pn l){s:Nat}(hs:s<l.nodes){gN gE:FuncId}(hN:NextF zB gN l pn fs)(hE:KeyF zB gE ft)(bf: ∀a∈l.arcs,ft a<l.nodes):Ret zB 112 [pn,.int .i64 s,.func (.func gN) #[pn] #[],.func (.func gE) #[] #[]] h0 fun r h'=>Gr h0 h'/\zh h' h0.n r (seen l.arcs fs ft) s l.nodes:=by
 have n1:=ai.n1;have n2:=ai.n2;have S:=Si ok;have c1: ¬((s:Int)<0):=by omega
 have c2: ¬((l.nodes:Int)<=(s:Int)):=by omega
 obtain⟨bp,bY⟩: ∃b,pn=ptrTo b:=by obtain⟨b,_,_,_,_,_,e,_⟩:=hn.ex;exact⟨b,e⟩
 subst bY;refine erA (n:=117) (rs:=[.cell 8 192]) e112 ?_;simp only [BZ];refine ag ay S ?_;clear S;intro h W S cl;simp only [BZ,c1,seval];refine ar (dm S.ok (hn.gr S.gr)) ?_;intro h g;replace S:=S.call g;simp only [BZ,c2,seval];refine ar (dm S.ok (hn.gr S.gr)) ?_;intro h g;replace S:=S.call g;simp only [BZ,seval];have nF:=S.fr.n;have kF:=fun {c} (t:c∈_)=>S.key_lt (b:=c) t;refine step_ret (EX S.ok) ?_;intro v h ⟨g,Fh,H,hFn⟩;replace S:=S.call g;rename Value=>p;have dF: ∀c∈Fh,c∉keys [(W,Ob.row [.slice none 0 0,.slice none 0 0,.slice none 0 0] 1)] []:=fun c t w=>by have:=kF w;have:=hFn c t;omega
 have lF:=H.lt S.ok;have Y:=S;have gF: ∀c∈Fh,h0.n<=c\/NoM c:=fun c t=>.inl (Xe nF (hFn c t));replace S:=S.base;simp only [BZ];refine ag (bD (by exact t23.1) (by exact X8) (by decide) (by rfl)) S ?_;clear S;intro h bh S a3;simp only [LC,bA,bN,ae,Xs,Xd,Xr,Xy,seval]at S;simp only [BZ,seval];refine ar (dm S.ok (hn.gr (Y.rebase S).gr)) ?_;intro h g;replace S:=S.call g;simp only [BZ,seval];have kl:=fun {c} (t:c∈_)=>S.key_lt (b:=c) t;have kn:=S.fr.n;refine step_ret (rep64_ok S.ok (x:=72057594037927936) (.inr ⟨bh,0,none,1,rfl,XB _,S.lds (b:=bh) (o:=0) (n:=1*1) m0 (lbt rfl)⟩) n1 (by omega)) ?_;intro v h ⟨g,bd,ed,nd,Rd⟩;replace S:=S.call g;subst ed;replace S:=S.drop1;replace S:=S.push (b:=bd) (o:=.row _ 1) (.inl (Xe kn nd)) Rd (fun w=>by have:=kl (XW _ w);omega);simp only [BZ];refine ag (bD (by exact t38.1) (by exact Yn) (by decide) (by rfl)) S ?_;clear S;intro h bi S a4;simp only [LC,bA,bN,ae,Xs,Xd,Xr,Xy,seval]at S;simp only [BZ,seval];refine ar (dm S.ok (hn.gr (Y.rebase S).gr)) ?_;intro h g;replace S:=S.call g;simp only [BZ,seval];have bl:=fun {c} (t:c∈_)=>S.key_lt (b:=c) t;have ak:=S.fr.n;refine step_ret (repI_ok S.ok (x:= -1) (.inr ⟨bi,0,none,1,rfl,XB _,S.lds (b:=bi) (o:=0) (n:=1*1) m0 (lbt rfl)⟩) n1 (by omega)) ?_;intro v h ⟨g,ba,ea,na,Ra⟩;replace S:=S.call g;subst ea;replace S:=S.drop1;replace S:=S.push (b:=ba) (o:=.row _ 1) (.inl (Xe ak na)) Ra (fun w=>by have:=bl (XW _ w);omega);have pp: ∃b,p=ptrTo b:=by obtain⟨b,_,_,e,_⟩:=H.ex;exact⟨b,e⟩
 obtain⟨bP,rfl⟩:=pp;simp only [BZ,seval];refine ag xj S ?_;clear S;intro h G S cm;simp only [BZ,seval];refine ag (bK (by intro x e;cases e)) S ?_;clear S;intro h C S cn;simp only [ae]at S;simp only [BZ];refine ag ay S ?_;clear S;intro h I S cp;simp only [BZ,seval];refine au (aw S (i:=0) rfl ?_ ?_ ?_ ono) ?_
 . exact(by simp only [FA0])
 . exact(by exact dB)
 . exact Xb (lbt rfl)
 clear S;rintro h ⟨S,mo⟩;clear mo;simp only [LC,ae,lay,Xo,Xp,seval]at S;simp only [BZ,S.ld (b:=I) (o:=0) m0 rfl,S.ld (b:=C) (o:=0) m1 rfl,seval];have d8: ∀c∈Fh,c≠W:=fun c t e=>dF c t (by rw [e];simp [keys]);have cN:=Xe kn nd;have cQ:=Xe ak na;clear kl bl kF kn nd ak na Ra Rd;have HA:=H.mo S.fr dF;have bm: ∀c∈Fh,c≠I/\c≠C/\c≠G/\c≠ba/\c≠bd/\c≠W:=fun c t=>by have:=lF c t;have:=d8 c t;omega
 replace S:=Y.rebase S;clear Y dF lF d8 H a3 a4;have T:=S.baseF Fh;have nh:=S.fr.n;have a5: ∀L,(∀c∈keys L [],c=I\/c=C\/c=G\/c=ba\/c=bd\/c=W)-> ∀c∈Fh,c∉keys L []:=fun L hL c t w=>by have:=bm c t;have:=hL c w;omega
 have ps:Ret zB 176 [ptrTo bP,.int .i64 (s:Nat),.int .i64 0] h _:=xK S.ok HA hs (by omega) rfl;refine step_ret ps ?_;rintro r Q ⟨f1,F1,H1,J⟩;replace S:=S.rebaseF gF (T.stepF f1 (fun c t=>⟨.inl (.inr t),a5 _ (fun c t=>by simpa [keys]using t) c t⟩));have P: ∀c∈F1,h0.n<=c/\c∉keys [(I,Ob.row [ptrTo C] 1),(C,.row [ptrTo bP,.slice (some ⟨bd,0,none⟩) l.nodes l.nodes,.slice (some ⟨ba,0,none⟩) l.nodes l.nodes,.slice none 0 0,.map (some G)] 1),(G,.map [] 0),(ba,.row (Xk l.nodes (.int .i64 (-1))) 1),(bd,.row (Xk l.nodes (.int .i64 72057594037927936)) 1),(W,.row [.slice none 0 0,.slice none 0 0,.slice none 0 0] 1)] []:=fun c t=>by
  rcases J c t with h2|h2
  . exact⟨(gF c h2).elim (fun h=>h) (fun h=>h.elim),a5 _ (fun c t=>by simpa [keys]using t) c h2⟩
  . refine⟨Xe nh h2,fun w=>?_⟩;have:=T.key_lt (b:=c) (by simpa [keys]using w);omega
 clear T a5 bm hFn gF nF J HA f1;replace S:=S.nilG (k:=1);have dj:=dj_init (B:=seen l.arcs fs ft) hs;have bn:=H1.lt S.ok;have S1:=S;replace S:=S.baseF F1;simp only [BZ,S.ld (b:=I) (o:=0) m0 rfl,S.ld (b:=C) (o:=0) m1 rfl,seval];refine step_ret (xN S.ok H1 (by omega)) ?_;rintro r h2 ⟨v,k,b,rfl,f2,H2,al,an⟩;replace S:=S.stepF f2 (fun c t=>⟨.inl (.inr t),fun w=>(P c t).2 (by simpa [keys,gy]using w)⟩);simp only [BZ,seval];have S2:=S;replace S:=S.base;refine ag ay S ?_;clear S;intro h bk S cr;simp only [BZ,seval];refine au (aw S (i:=0) rfl ?_ ?_ ?_ ono) ?_
 . exact(by simp only [FA0])
 . exact(by exact cE)
 . exact Xb (lbt rfl)
 clear S;rintro h ⟨S,mo⟩;clear mo;simp only [LC,ae,lay,Xo,Xp,seval]at S;simp only [BZ,seval];have H3:=H2.mo S.fr (fun c t w=>(P c t).2 (by simpa [keys,gy]using w));refine tG (FloodI h0 (seen l.arcs fs ft) s l.nodes I C G ba bd W bP bp gN gE) (fun O=>l.nodes-O.length) ?_ [] _ _ _ ?_
 . clear S S1 S2 H3 al an H2 f2 H1 dj P bn ps;intro O ih ρ d hS ⟨dbs,D,K,F,es,c,f,aL,vO,bk,v,key,b,hd,Y,Z,lA,MI,CF,dj,H,al,an,r0,r2,r3,r8,r9,r10,r11,r12⟩;simp only [YI,YP]at Y Z;have S:=Y.base;cases b with
   | false=>
     simp only [BZ,r8,r9,r12,S.ld (b:=I) (o:=0) m1 rfl,S.lds (b:=C) (o:=1) (n:=3) m2 (lbt rfl),seval];have a6:Fl vO:=by
      rcases(Y.gown _ m0).1 with⟨e,_⟩|⟨_,_,e,_⟩
      . rw [show vO=_ from e];exact bW
      . rw [show vO=_ from e];exact bW
     refine au (stA S (i:=6) t192.2.1 (by simp only [ae,XZ,Xm,XA,XI,X4,Yd,a6.2.1,Xl];rfl)) ?_;clear S;rintro h ⟨S,_⟩;simp only [LC,ae,lay,Xo,Xp,seval]at S;simp only [BZ];replace S:=(Y.rebase S).permL (L':=dV dbs++[(bk,_),(I,_),(C,_),(G,_),(ba,_),(bd,_),(W,_)]) YX;subst hd;refine ig (ib dbs _ S fun h' S'=>?_);have lT:=S'.lds (b:=W) (o:=0) (n:=3) m6 (lbt rfl);refine⟨rfl,_,tV (by decide) (by simp only [az,r8,ah,seval];exact bz t192.1 t192.2.1 lT),S'.gr,?_⟩;refine⟨_,_,_,D,aL,O,rfl,?_,?_,?_,lA,dj.done (an rfl) n2,?_,dj.nd,dj.lt⟩
     . refine .inr ⟨bd,0,none,l.nodes,by rw [Xv,XG],by rw [Xv,XG];exact XB _,?_⟩;have:=(S'.row (b:=bd) m5).load (o:=0) (n:=((zM l.nodes).map D).length*1) (by rw [sj];omega);rw [this,Xm,Xx (by rw [sj];omega)];rfl
     . refine .inr ⟨ba,0,none,l.nodes,by rw [lA],by rw [lA];exact XB _,?_⟩;have:=(S'.row (b:=ba) m4).load (o:=0) (n:=aL.length*1) (by rw [bR];omega);rw [this,Xm,Xx (by rw [bR];omega)];rfl
     . exact(S'.gown _ m0).1.sl rfl jt (by decide)
     . rintro c (h|h|h)
       . have h:bd=c:=h;subst h;exact((S'.own _ m5).1).elim (fun h=>h) (fun h=>h.elim)
       . have h:ba=c:=h;subst h;exact((S'.own _ m4).1).elim (fun h=>h) (fun h=>h.elim)
       . exact((S'.gblk m0 h).1).elim (fun h=>h) (fun h=>h.elim)
   | true =>
     simp only [if_true]at H;obtain⟨hk,bt⟩:=al rfl;obtain⟨_,n,rfl,_,_⟩:=dj.i3 v key hk;obtain⟨b0,b4,a7,cT⟩:=dj.pop hk bt;have lk:=xG (x:=(v:Int)) t187.1 Tryz.t3.1 (z:=.int .i64 0) (by kernel_rfl) (show hS.get G=some (.map es c)from(S.own _ m3).2) MI;rw [CF v,if_neg b4,YH]at lk;have w1:am .i64 1=1:=rfl;simp only [BZ,r9,r10,r12,lk,w1,S.ld (b:=I) (o:=0) m1 rfl,S.ld (b:=C) (o:=4) m2 rfl,seval];refine au (S.mputI (i:=3) rfl t187.1 Tryz.t3.1 MI _) ?_;clear S;rintro h ⟨_,R,c',bu,S⟩;simp only [LC]at S;simp only [BZ];refine av (aB rfl) (q:=0) (ps:=[]) (by kernel_rfl) ?_;simp only [BZ,cls,r9,r10,r11,a7,S.ld (b:=I) (o:=0) m1 rfl,S.ld (b:=C) (o:=1) m2 rfl,S.ld (b:=bk) (o:=0) m0 rfl,seval];refine dM (aw S (i:=5) rfl Tryz.t2.2.2.1 cE (by rw [sj,Xv,XG];exact a7) ono) ?_;clear S;rintro h ⟨S,_⟩;simp only [LC]at S;have eD:(fW ((zM l.nodes).map D)).set v (.int .i64 (n:Nat))=fW ((zM l.nodes).map fun u=>if u=v then n else D u):=(by rw [n9,n9,Yb,Yb];have:=mV (N:=l.nodes) (k:=v) (F:=(fun(x:Nat)=>Value.int .i64 x)∘D) (F':=(fun(x:Nat)=>Value.int .i64 x)∘fun u=>if u=v then n else D u) (fun u _ hu=>by simp [hu]);rw [<-this];simp);rw [eD]at S;simp only [BZ,seval];refine av (aB rfl) (q:=128) (ps:=[(0,8)]) (by kernel_rfl) ?_;simp only [BZ,cls,r9,r10,S.ld (b:=I) (o:=0) m1 rfl,S.ld (b:=C) (o:=3) m2 rfl,seval];refine dR (bD (by exact t38.1) (by exact Yn) (by decide) (by rfl)) S ?_;clear S;intro h bs S cs cv;simp only [LC,bA,bN,ae,Xs,Xd,Xr,Xy,seval]at S;simp only [BZ,cls,seval];have bv:aF h 1 (.slice (some ⟨bs,0,none⟩) 1 1)=some (1,fW [v]):=(by simp only [aF];rw [S.lds (b:=bs) (o:=0) (n:=1*1) m0 (lbt rfl)];rfl);replace S:=S.drop1;refine jo (S.grow (j:=0) (m:=1) (new:=fW [v]) rfl t38.1 Yn (by decide) t38.2.2.2.2.2 bv rfl (by decide) rfl (by rw [sj,sj];have:=dj.len;simp;omega)) ?_;clear S bv;rintro h A S;simp only [LC,<-nats_app]at S;have a6:Fl A:=by
      rcases(S.gown _ m0).1 with⟨e,_⟩|⟨_,_,e,_⟩
      . rw [show A=_ from e];exact bW
      . rw [show A=_ from e];exact bW
     simp only [BZ,cls,seval];refine dM (aw S (i:=2) rfl t38.2.2.1 a6 (Xb (lbt rfl)) ono) ?_;clear S;rintro h ⟨S,_⟩;simp only [LC]at S;simp only [BZ,r0,r2,r10,seval];have pv:vO=.slice none 0 0\/ ∃c n,vO=.slice (some ⟨c,0,some 1⟩) n n/\c≠I:=by
      rcases(Y.gown _ m0).1 with⟨e,_⟩|⟨c,n,e,_⟩
      . exact .inl e
      . refine .inr ⟨c,n,e,fun h=>?_⟩;exact(Y.gblk (c:=c) m0 (by rw [show vO=_ from e];rfl)).2 (by subst h;exact List.mem_map_of_mem (f:=Y9) m1)
     refine⟨?_,?_⟩
     . clear ih;rcases pv with rfl|⟨cO,nO,rfl,bw⟩
       . simp only [aR,aZ,aM,bo,aP,ne_eq,not_false_eq_true,bj,bH,aQ,aO,bS,cq,az,Xl,r9,ah,uz,vK,vI,sK,kQ,seval]
       . simp only [aR,aZ,aM,bo,aP,ne_eq,not_false_eq_true,bj,bH,aQ,aO,bS,cq,az,Xl,r9,ah,uz,vK,iu bw,iu bw.symm,seval]
     have kO: ∀c∈keys ((bk,Ob.row [.int .i64 (n:Nat)] 1)::(I,.row [ptrTo C] 1)::(C,.row [ptrTo bP,.slice (some ⟨bd,0,none⟩) l.nodes l.nodes,.slice (some ⟨ba,0,none⟩) l.nodes l.nodes,vO,.map (some G)] 1)::(G,.map es c)::(ba,.row (ints aL) 1)::(bd,.row (fW ((zM l.nodes).map D)) 1)::(W,.row [.slice none 0 0,.slice none 0 0,.slice none 0 0] 1)::dV dbs) [(vO,1,fW O)],c<hS.n:=fun c t=>Y.key_lt t;have kS:=fun {c} t=>S.key_lt (b:=c) t;have cW:=(Y.rebase S).gr.n;refine step_ret (hN _ nb S.ok (hn.gr (Y.rebase S).gr) v a7) ?_;rintro vl h ⟨g,sl,bx⟩;have kn:=S.fr.n;have gn:=g.n;replace S:=S.call g;simp only [BZ,r3,seval];have ak:=S.fr.n;have cX:=fun {c} t=>sl.lt S.ok (b:=c) t;refine step_ret (arcs_ok' S.ok dB sl.fl jg) ?_;intro v h ⟨g,b1,b2,b3,e,q1,q2,q3,y1,y2,y3⟩;replace S:=S.call g;replace sl:=sl.gr g;clear g;subst e;simp only [BZ];have hH:=H.mo S.fr (fun c t w=>(Z c t).2 w);have bB:=H.lt Y.ok;refine kH S (g:=217) (a:=#[]) (b:=#[ptrTo b1,ptrTo b2,ptrTo b3]) (by simp [bS,ao,ah]) rfl rfl ?_;intro h2 db lb S' cY c0 g2;have R1:=Y.rebase S';obtain⟨X,hX,R1⟩: ∃X:iI,X=_/\St NoM h0 h2 ((lb,.loop X)::(db,.dfr)::(bk,Ob.row [.int .i64 (n:Nat)] 1)::(I,.row [ptrTo C] 1)::(C,.row [ptrTo bP,.slice (some ⟨bd,0,none⟩) l.nodes l.nodes,.slice (some ⟨ba,0,none⟩) l.nodes l.nodes,A,.map (some G)] 1)::(G,.map R c')::(ba,.row (ints aL) 1)::(bd,.row (fW ((zM l.nodes).map fun u=>if u=v then n else D u)) 1)::(W,.row [.slice none 0 0,.slice none 0 0,.slice none 0 0] 1)::dV dbs) [(A,1,fW (O++[v]))]:=⟨_,rfl,R1⟩;have bL:ClF (O++[v]) (fG f (v:Int) (some (.int .i64 1))):=fun u=>by
      unfold fG;by_cases e:u=v
      . subst e;simp
      . have e': ¬((u:Int)=(v:Int)):=(by omega);rw [if_neg e',CF u];simp [e]
     have hJ :Yld zB lb (fun k h' F'=> ∃K' Fh E,St NoM h0 h' ((lb,.loop X)::(db,.dfr)::(bk,Ob.row [.int .i64 (n:Nat)] 1)::(I,.row [ptrTo C] 1)::(C,.row [ptrTo bP,.slice (some ⟨bd,0,none⟩) l.nodes l.nodes,.slice (some ⟨ba,0,none⟩) l.nodes l.nodes,A,.map (some G)] 1)::(G,.map R c')::(ba,.row (ints E) 1)::(bd,.row (fW ((zM l.nodes).map fun u=>if u=v then n else D u)) 1)::(W,.row [.slice none 0 0,.slice none 0 0,.slice none 0 0] 1)::dV dbs) [(A,1,fW (O++[v]))]/\
      fD h' Fh (ptrTo bP) l.nodes K'/\(∀c∈Fh,h0.n<=c/\c∉keys ((lb,.loop X)::(db,.dfr)::(bk,Ob.row [.int .i64 (n:Nat)] 1)::(I,.row [ptrTo C] 1)::(C,.row [ptrTo bP,.slice (some ⟨bd,0,none⟩) l.nodes l.nodes,.slice (some ⟨ba,0,none⟩) l.nodes l.nodes,A,.map (some G)] 1)::(G,.map R c')::(ba,.row (ints E) 1)::(bd,.row (fW ((zM l.nodes).map fun u=>if u=v then n else D u)) 1)::(W,.row [.slice none 0 0,.slice none 0 0,.slice none 0 0] 1)::dV dbs) [(A,1,fW (O++[v]))])/\
      E.length=l.nodes/\Dj (seen l.arcs fs ft) s l.nodes (O++[v]) (fun u=>if u=v then n else D u) K' (fun a=> ∃id∈(outs l.arcs fs l.arcs.length v).drop k,(seen l.arcs fs ft).getD id default=a)/\
      F'=keys ((lb,.loop X)::(db,.dfr)::(bk,Ob.row [.int .i64 (n:Nat)] 1)::(I,.row [ptrTo C] 1)::(C,.row [ptrTo bP,.slice (some ⟨bd,0,none⟩) l.nodes l.nodes,.slice (some ⟨ba,0,none⟩) l.nodes l.nodes,A,.map (some G)] 1)::(G,.map R c')::(ba,.row (ints E) 1)::(bd,.row (fW ((zM l.nodes).map fun u=>if u=v then n else D u)) 1)::(W,.row [.slice none 0 0,.slice none 0 0,.slice none 0 0] 1)::dV dbs) [(A,1,fW (O++[v]))]++Fh) (fun _ _=>False) (rA l.arcs ft (outs l.arcs fs l.arcs.length v)):=by
      clear ih S' R1 y1 y2 y3 hH S g2 H Z sl;refine⟨?_,?_,fun _ _ h=>h.elim,?_⟩
      . rintro k h F' ⟨K',Fh,E,S,H,Z,_,_,rfl⟩;exact⟨S.ok,fun b hb=>(List.mem_append.1 hb).elim (fun hb=>S.key_lt hb) (fun hb=>H.lt S.ok b hb)⟩
      . rintro k h F' h' ⟨K',Fh,E,S,H,q⟩ g;exact⟨K',Fh,E,S.call g,H.gr g,q⟩
      . rintro k x h F' hx ⟨K',Fh,E,S,H,Z,a8,U,rfl⟩;have bb:k<(outs l.arcs fs l.arcs.length v).length:=(by have:=(List.getElem?_eq_some_iff.1 hx).1;simpa [rA]using this);unfold rA at hx;rw [XD,Xj bb]at hx;cases hx;have w:=uZ.1 (Xu bb);rw [XV bb]at U;generalize(outs l.arcs fs l.arcs.length v)[k]=id at w U;obtain⟨aa,be⟩:=w;subst hX;refine kK (S.get m0) (by rw [e112];rfl) rfl ?_;have S1:=S;replace S:=S.base;simp only [BZ,seval];refine ag ay S ?_;clear S;intro h bM S b5;simp only [BZ,Xn,cR,seval];refine au (stA S (i:=0) t81.2.1) ?_;clear S;rintro h ⟨S,mo⟩;clear mo;simp only [LC,ae,lay,Xo,Xp,seval]at S;simp only [BZ];refine jP S (i:=1) rfl rfl rfl rfl rfl ?_;clear S;intro h S;simp only [LC]at S;have ac:l.arcs.getD id default∈l.arcs:=(by rw [Xf,Xj aa];exact Xu aa);have c3:=ai.arcs _ ac;have c4:O.length*WMAX<=12*WMAX:=Yf _ (Xe dj.len n2);have cx:=WMAX_eq;have wn:am .i64 ((n:Int)+((l.arcs.getD id default).w:Int))=((n+(l.arcs.getD id default).w:Nat):Int):=(by rw [wrap64]<;>omega);simp only [BZ,r9,r11,wn,S.ld (b:=I) (o:=0) m4 rfl,S.ld (b:=bM) (o:=1) m0 rfl,S.ld (b:=bM) (o:=2) m0 rfl,S.ld (b:=bk) (o:=0) m3 rfl,seval];have hH:=H.mo S.fr (fun c t w=>(Z c t).2 w);have bO:=H.lt S1.ok;have d3:C≠ba:=fun e=>(by have ap:=S1.apart;subst e;simp only [keys,Yg,YI,List.nodup_cons,X3]at ap;exact ap.2.2.2.2.1 (.inr (.inl trivial)));replace S:=S.mono (M':=fun c=>c∈keys _ _\/c∈Fh) (fun _ h=>.inl h);refine step_ret (reach_ok S.ok (arc:=id) (far:=n+(l.arcs.getD id default).w) (S.row m5) hH (by omega) (S.own _ m6).2 bu bL (S.row m7) a8 (bf _ ac) (fun h=>(Z ba h).2 (by simp [keys])) (fun h=>(Z C h).2 (by simp [keys])) d3) ?_;rintro r h ⟨f1,F2,b6,H2,ad,b7,ca,c5⟩;have kq:=fun {c} t=>S.key_lt (b:=c) t;have qn:=S.fr.n;have S2:=S.callF (i:=7) (Fh:=Fh) rfl f1 (fun c t=>⟨.inl (.inr t),fun w=>by
         rcases List.mem_cons.1 w with e|w
         . have:=bO c t;omega
         . exact(Z c t).2 w⟩) (o':=.row _ 1) b7
        simp only [Xt,List.set_cons_succ]at S2;clear S;simp only [BZ];have S:=S2.base;refine gR S (i:=1) rfl ?_;clear S;intro h S;simp only [LC]at S;have H3:=H2.mo S.fr (fun c t w=>by
         rcases ad c t with Q|Q
         . rcases List.mem_cons.1 w with e|w
           . have:=bO c Q;omega
           . exact(Z c Q).2 w
         . have:=kq w;omega)
        have S3:=S2.rebase S;refine .inl ⟨rfl,_,⟨_,F2,b6,S1.rebaseF (fun c t=>.inl (Z c t).1) S3.drop1,H3,fun c t=>?_,ca,?_,rfl⟩,S3.fr.mono (fun c t=>List.mem_append.2 t),fun c t=>?_⟩
        . rcases ad c t with Q|Q
          . exact Z c Q
          . refine⟨Xe S1.fr.n (Xe qn Q),fun w=>?_⟩;have:=kq (XW _ w);omega
        . obtain⟨e1,e2⟩:=seen_at (fs:=fs) (ft:=ft) aa;have:=U.relaxed (ex':=fun a=> ∃cb∈(outs l.arcs fs l.arcs.length v).drop (k+1),(seen l.arcs fs ft).getD cb default=a) e2 (by rw [e1];show fs _∈_;rw [be];simp) (by rw [e1];exact bf _ ac) (by rw [e1];simp only [be,if_true];rw [Xh,List.length_singleton,YF];omega) (fun b hb hx=>by
           by_cases eb:b=(seen l.arcs fs ft).getD id default
           . exact .inr eb
           . left;rintro⟨i,hi,rfl⟩;rcases List.mem_cons.1 hi with e|hi
             . subst e;exact eb rfl
             . exact hx ⟨i,hi,rfl⟩)
          simp only [e1,be,if_true]at this;exact this
        . rcases List.mem_append.1 t with t|t
          . exact .inl (List.mem_append_left _ t)
          . rcases ad c t with Q|Q
            . exact .inl (YY _ Q)
            . exact .inr (Xe qn Q)
     have af:=(Y.rebase S).gr;have cz:=sk l.arcs fs l.arcs.length v;have c7:=ai.many;refine d7 (iter_useN (arcs_it (hq:=h0) ok S.ok af.keep af.n hn sl (fun id aa=>(uZ.1 aa).1) (by omega) hE y1 y2 y3) (fun _ _ h=>h) hJ (h:=h2) (F:=keys ((lb,.loop X)::(db,.dfr)::(bk,Ob.row [.int .i64 (n:Nat)] 1)::(I,.row [ptrTo C] 1)::(C,.row [ptrTo bP,.slice (some ⟨bd,0,none⟩) l.nodes l.nodes,.slice (some ⟨ba,0,none⟩) l.nodes l.nodes,A,.map (some G)] 1)::(G,.map R c')::(ba,.row (ints aL) 1)::(bd,.row (fW ((zM l.nodes).map fun u=>if u=v then n else D u)) 1)::(W,.row [.slice none 0 0,.slice none 0 0,.slice none 0 0] 1)::dV dbs) [(A,1,fW (O++[v]))]++F) g2.fr (fun b hb hlt=>?_)
      ⟨gz K v none,F,aL,R1,hH.gr g2,fun c t=>⟨(Z c t).1,fun w=>?_⟩,lA,b0.exm (fun a ha hs=>?_),rfl⟩) fun o rc h' y=>qR y ?_
     . rcases List.mem_append.1 hb with V|V
       . have k2:=(R1.key_own V).elim (fun h=>h) (fun h=>h.elim);rcases List.mem_cons.1 V with e|V
         . simp only []at e;omega
         . rcases List.mem_cons.1 V with e|V
           . simp only []at e;omega
           . have k1:=kS V;rintro(h|h|h|h|h)
             . omega
             . omega
             . omega
             . have:=bx b h;omega
             . omega
       . have k1:=bB b V;have k2:=(Z b V).1;rintro(h|h|h|h|h)
         . omega
         . omega
         . omega
         . have:=bx b h;omega
         . omega
     . have k1:=bB c t;have c8:=S.fr.n;rcases List.mem_cons.1 w with e|w
       . simp only []at e;omega
       . rcases List.mem_cons.1 w with e|w
         . simp only []at e;omega
         . rcases S.key_own w with Q|Q
           . omega
           . exact(Z c t).2 Q
     . obtain⟨i,hi,e⟩:=seen_mem ha;refine⟨i,?_,e⟩;rw [Xm];refine uZ.2 ⟨hi,?_⟩;have:=(seen_at (fs:=fs) (ft:=ft) hi).1;rw [e]at this;rw [this]at hs;exact hs
     . rintro Fx ⟨K',a0,E,T,H',J,a8,U,rfl⟩;clear hJ R1 y1 y2 y3 hH S' S;rw [show(rA l.arcs ft (outs l.arcs fs l.arcs.length v)).length=(outs l.arcs fs l.arcs.length v).length by simp [rA],List.drop_length]at U;replace U:=U.exm (ex':=fun _=>False) (fun a _ h=>by obtain⟨i,hi,_⟩:=h;cases hi);subst hX;refine⟨_,T.get m0,X7,?_⟩;have ad: ∀c∈a0,c≠lb:=fun c t e=>(J c t).2 (by rw [e];exact m0);have H2:=H'.mo ((Mo.refl (M:=(· =lb)) T.ok).put (.inr rfl) .dead) ad;replace T:=T.dead;replace J:=fun c t=>And.intro (J c t).1 (fun w=>(J c t).2 (XW _ w));have S:=T.base;show Run _ _ _ _ _ _ _ _;simp only [BZ,if_false,r11,S.ld (b:=bk) (o:=0) m1 rfl,seval];refine ag ay S ?_;clear S;intro h a1 S cc;simp only [BZ,r11,seval];refine au (aw S (i:=0) rfl ?_ ?_ ?_ ono) ?_
       . exact(by simp only [FA0])
       . exact(by exact cE)
       . exact Xb (lbt rfl)
       clear S;rintro h ⟨S,mo⟩;clear mo;simp only [LC,ae,lay,Xo,Xp,seval]at S;simp only [BZ,r9,S.ld (b:=I) (o:=0) m3 rfl,S.ld (b:=C) (o:=0) m4 rfl,seval];have H3:=H2.mo S.fr (fun c t w=>(J c t).2 w);have cf:=H2.lt T.ok;have a2: ∀c∈a0,h0.n<=c/\c∉keys ([(a1,Ob.row [.int .i64 (n:Nat)] 1),(I,.row [ptrTo C] 1),(C,.row [ptrTo bP,.slice (some ⟨bd,0,none⟩) l.nodes l.nodes,.slice (some ⟨ba,0,none⟩) l.nodes l.nodes,A,.map (some G)] 1),(G,.map R c'),(ba,.row (ints E) 1),(bd,.row (fW ((zM l.nodes).map fun u=>if u=v then n else D u)) 1),(W,.row [.slice none 0 0,.slice none 0 0,.slice none 0 0] 1)]++dV (db::dbs)) [(A,1,fW (O++[v]))]:=fun c t=>by
        refine⟨(J c t).1,fun w=>?_⟩;have Q:=(J c t).2;have h2:=cf c t;simp [keys,dV]at w;rcases w with h|h|h|h|h|h|h|h|h|h
        . omega
        all_goals exact Q (by simp [keys,dV,h])
       replace S:=(T.rebase S).sub (L':=(a1,Ob.row [.int .i64 (n:Nat)] 1)::(db,.dfr)::(I,.row [ptrTo C] 1)::(C,.row [ptrTo bP,.slice (some ⟨bd,0,none⟩) l.nodes l.nodes,.slice (some ⟨ba,0,none⟩) l.nodes l.nodes,A,.map (some G)] 1)::(G,.map R c')::(ba,.row (ints E) 1)::(bd,.row (fW ((zM l.nodes).map fun u=>if u=v then n else D u)) 1)::(W,.row [.slice none 0 0,.slice none 0 0,.slice none 0 0] 1)::dV dbs) (G':=[(A,1,fW (O++[v]))]) (.cons_cons _ (.cons_cons _ (Xc _ _))) (List.Sublist.refl _);replace S:=S.permL (L':=[(a1,Ob.row [.int .i64 (n:Nat)] 1),(I,.row [ptrTo C] 1),(C,.row [ptrTo bP,.slice (some ⟨bd,0,none⟩) l.nodes l.nodes,.slice (some ⟨ba,0,none⟩) l.nodes l.nodes,A,.map (some G)] 1),(G,.map R c'),(ba,.row (ints E) 1),(bd,.row (fW ((zM l.nodes).map fun u=>if u=v then n else D u)) 1),(W,.row [.slice none 0 0,.slice none 0 0,.slice none 0 0] 1)]++dV (db::dbs)) (.cons _ (by
        show(List.append [_,_,_,_,_,_] ((db,Ob.dfr)::dV dbs)).Perm _;exact YD))
       clear T H' H2 J;have T:=S.baseF a0;refine step_ret (xN S.ok H3 (by omega)) ?_;rintro rr h3 ⟨v3,k3,ch,rfl,f3,H4,bT,bX⟩;replace S:=S.rebaseF (fun c t=>.inl (a2 c t).1) (T.stepF f3 (fun c t=>⟨.inl (.inr t),(a2 c t).2⟩));simp only [BZ,r11,seval];clear T;have T:=S;replace S:=S.base;simp only [LC]at S;refine au (aw S (i:=0) rfl ?_ ?_ ?_ ono) ?_
       . exact(by simp only [FA0])
       . exact(by exact cE)
       . exact Xb (lbt rfl)
       clear S;rintro h ⟨S,mo⟩;clear mo;simp only [LC,ae,lay,Xo,Xp,seval]at S;simp only [BZ,seval];have H5:=H4.mo S.fr (fun c t w=>(a2 c t).2 w);replace S:=T.rebase S;subst hd;have c9:(O++[v]).length=O.length+1:=(by simp);have cA:=U.len;refine ih (O++[v]) _ _ _ (by omega) ⟨db::dbs,_,K',a0,R,c',_,E,A,a1,v3,k3,ch,rfl,S,a2,a8,bu,bL,U,H5,bT,bX,?_⟩;refine(by simp [ao,r0,ah,r2,r3,r8,r9])
 . have e1:fW ((zM l.nodes).map fun _=>FAR)=Xk l.nodes (.int .i64 72057594037927936):=(by rw [n9,YO,XG,List.map_replicate];rfl);have e2:ints (Xk l.nodes (-1))=Xk l.nodes (.int .i64 (-1)):=(by rw [ints_map,List.map_replicate]);have S3:=S1.rebaseF (fun c t=>.inl (P c t).1) (S2.rebase S);have nn:=S2.fr.n;refine⟨[],fun _=>FAR,gz (fun _=>none) s (some 0),F1,[],0,fun _=>none,Xk l.nodes (-1),.slice none 0 0,bk,v,k,b,rfl,?_,?_,by simp,yz,fun u=>by simp,dj,H3,al,an,?_⟩
   . rw [e1,e2];exact S3
   . rw [e1,e2];intro c t;refine⟨(P c t).1,fun w=>?_⟩;have Q:=(P c t).2;have h2:=bn c t;simp [keys,gy,dV]at w Q;omega
   . refine(by simp [ao,ah,ct,cP])
theorem fromKey:KeyF zB 116 Arc.t:=by intro f a c;have S:=Si c;refine erA (n:=5) (rs:=[.tmp 2]) e116 ?_;simp only [BZ,cR,seval];refine ag (bK (by intro x e;cases e)) S ?_;clear S;intro h b S d;simp only [ae]at S;simp only [BZ,ab,S.ld (b:=b) (o:=1) m0 rfl,seval];exact S.gr
theorem toKey:KeyF zB 114 Arc.s:=by intro f a c;have S:=Si c;refine erA (n:=5) (rs:=[.tmp 2]) e114 ?_;simp only [BZ,cR,seval];refine ag (bK (by intro x e;cases e)) S ?_;clear S;intro h b S d;simp only [ae]at S;simp only [BZ,ab,S.ld (b:=b) (o:=0) m0 rfl,seval];exact S.gr
theorem fromNext{b:Gra}(a:Good b){c:Value}:NextF zB 115 b c Arc.s:=fun h g d e v f=>netOut_ok d e (by have:=a.many;omega) f
theorem toNext{b:Gra}(a:Good b){c:Value}:NextF zB 113 b c Arc.t:=fun h g d e v f=>C9 d e (by have:=a.many;omega) f
theorem wF{j:Hp}(C:OZ j){k:Gra}(f:Good k){q:Value}{E:Nat}(F:cI j E q k){s:Nat}(hs:s<k.nodes):Ret zB 54 [q,.int .i64 s] j fun r h'=>Gr j h'/\zh h' j.n r (seen k.arcs Arc.s Arc.t) s k.nodes:=by
 have S:=Si C;refine erA (n:=10) (rs:=[.cell 4 192]) e54 ?_;simp only [BZ];refine ag ay S ?_;clear S;intro h l S t;simp only [BZ,seval];have G:=S.fr.n;have H:=(S.row (b:=l) m0).lt S.ok;refine step_ret (CE S.ok f (F.gr S.gr) hs (fromNext f) fromKey (fun a I=>(f.arcs a I).2.1)) ?_;intro v h ⟨g,T⟩;replace S:=S.call g;obtain⟨u,w,y,D,J,O,rfl,z,A,B,t4,t5,t6,t7,t8⟩:=T;have K:=z.fl;have L:=A.fl;have M:=B.fl;have m: ∀c,aA u c\/aA w c\/aA y c->c≠l:=fun c d e=>by have:=t6 c d;omega
 simp only [BZ,seval];refine au (S.store (i:=0) rfl t192.2.1 (by intro x e;cases e) rfl (by simp only [ae,X4,Yd,K.2.1,L.2.1,M.2.1,Xl]) (lbt rfl) ono) ?_;clear S;rintro h ⟨S,p⟩;simp only [LC,ae,lay,Xo,Xp,seval]at S;simp only [BZ,ab];refine(bF (by decide) (by simp only [az,ah,seval];exact bz t192.1 t192.2.1 (S.lds (b:=l) (o:=0) (n:=3) m0 (lbt rfl)))).2 (bV.2 ?_);exact⟨S.gr,u,w,y,D,J,O,rfl,z.mo p (fun c d=>m c (.inl d)),A.mo p (fun c d=>m c (.inr (.inl d))),B.mo p (fun c d=>m c (.inr (.inr d))),t4,t5,fun c d=>Xe G (t6 c d),t7,t8⟩
theorem u5{j:Hp}(C:OZ j){k:Gra}(f:Good k){q:Value}{E:Nat}(F:cI j E q k){s:Nat}(hs:s<k.nodes):Ret zB 53 [q,.int .i64 s] j fun r h'=>Gr j h'/\zh h' j.n r (seen k.arcs Arc.t Arc.s) s k.nodes:=by
 have S:=Si C;refine erA (n:=10) (rs:=[.cell 4 192]) Tryz.e53 ?_;simp only [BZ];refine ag ay S ?_;clear S;intro h l S t;simp only [BZ,seval];have G:=S.fr.n;have H:=(S.row (b:=l) m0).lt S.ok;refine step_ret (CE S.ok f (F.gr S.gr) hs (toNext f) toKey (fun a I=>(f.arcs a I).1)) ?_;intro v h ⟨g,T⟩;replace S:=S.call g;obtain⟨u,w,y,D,J,O,rfl,z,A,B,t4,t5,t6,t7,t8⟩:=T;have K:=z.fl;have L:=A.fl;have M:=B.fl;have m: ∀c,aA u c\/aA w c\/aA y c->c≠l:=fun c d e=>by have:=t6 c d;omega
 simp only [BZ,seval];refine au (S.store (i:=0) rfl t192.2.1 (by intro x e;cases e) rfl (by simp only [ae,X4,Yd,K.2.1,L.2.1,M.2.1,Xl]) (lbt rfl) ono) ?_;clear S;rintro h ⟨S,p⟩;simp only [LC,ae,lay,Xo,Xp,seval]at S;simp only [BZ,ab];refine(bF (by decide) (by simp only [az,ah,seval];exact bz t192.1 t192.2.1 (S.lds (b:=l) (o:=0) (n:=3) m0 (lbt rfl)))).2 (bV.2 ?_);exact⟨S.gr,u,w,y,D,J,O,rfl,z.mo p (fun c d=>m c (.inl d)),A.mo p (fun c d=>m c (.inr (.inl d))),B.mo p (fun c d=>m c (.inr (.inr d))),t4,t5,fun c d=>Xe G (t6 c d),t7,t8⟩
def wy(x:Int):Int:=min (max x 0) 72057594037927936
theorem El(d:OZ a){x:Int}(e:a.load b 0 1=some [.int .i64 0])(f:a.load c 0 1=some [.int .i64 72057594037927936]):cj zB 246 [.int .i64 x,ptrTo b,ptrTo c] a (.int .i64 (wy x)):=by have S:=Si d;refine erA (n:=10) (rs:=[.tmp 4]) e246 ?_;simp only [BZ,ab,e,f,seval];exact⟨rfl,S.gr⟩
theorem Ey(g:OZ a):Ret zB 245 [.int .i64 0,.int .i64 72057594037927936] a fun v h=>Gr a h/\ ∃b c,v=.func (.func 246) #[] #[ptrTo b,ptrTo c]/\h.load b 0 1=some [.int .i64 0]/\h.load c 0 1=some [.int .i64 72057594037927936]:=by have S:=Si g;refine erA (n:=6) (rs:=[.tmp 4]) e245 ?_;simp only [BZ,seval];refine ag (bK (by intro x e;cases e)) S ?_;clear S;intro h b S d;simp only [ae]at S;simp only [BZ,if_false,seval];refine ag (bK (by intro x e;cases e)) S ?_;clear S;intro h c S f;simp only [ae]at S;simp only [BZ,ab,seval];exact⟨S.gr,b,c,rfl,S.ld m1 rfl,S.ld m0 rfl⟩
theorem wB(b:OZ a){x:Int}:cj zB 242 [.int .i64 x] a (.int .i64 (wy x)):=by have S:=Si b;refine erA (n:=6) (rs:=[.tmp 2]) e242 ?_;simp only [BZ];refine step_ret (Ey S.ok) ?_;intro v h ⟨g,b1,b2,e,e1,e2⟩;replace S:=S.call g;subst e;simp only [BZ,seval];refine ar (El S.ok e1 e2) ?_;intro h g;replace S:=S.call g;simp only [BZ,ab,seval];exact S.gr
theorem Az(b:OZ a){x:Int}:cj zB 236 [.int .i64 x] a (.bool (decide (wy x<72057594037927936))):=by have S:=Si b;refine erA (n:=6) (rs:=[.tmp 2]) e236 ?_;simp only [BZ,seval];refine ar (wB S.ok) ?_;intro h g;replace S:=S.call g;simp only [BZ,ab,seval];exact S.gr
theorem wy_bd(x:Int):0<=wy x/\wy x<=72057594037927936:=by unfold wy;omega
theorem wy_id{x:Int}(a:0<=x)(b:x<=72057594037927936):wy x=x:=by unfold wy;omega
structure YldP(E:Env)(lb:Nat)(J:Nat->Hp->List Nat->Prop)(n:Nat)(P:Nat->Hp->List Nat->List Value->Prop):Prop where
 lt: ∀i h F,J i h F->OZ h/\ ∀b∈F,b<h.n
 gr: ∀i h F h',J i h F->Gr h h'->J i h' F
 round: ∀i x h F,i<n->P i h F x->J i h F->mN E lb x h fun o h'=>o=.ret (.bool true)/\ ∃F',J (i+1) h' F'/\Mo (· ∈F) h h'/\ ∀b∈F',b∈F\/h.n<=b
def IterP(E:Env)(g:FuncId)(post:List Value)(b:Hp)(D:Nat->Prop)(n:Nat)(P:Nat->Hp->List Nat->List Value->Prop):Prop:=
 ∀a J,YldP E a J n P-> ∀h F,ItS b D h F->J 0 h F->dE E g (.func (.yield a) #[] #[]::post) none h fun o c d=>c=none/\ ∃u e,o=.ret u/\J n d e
theorem Ek{cx:Cx}{o:Oper}{l:Loc}{K:Ex->Loc->Hp->Prop}{d:Hp}{P:Nat->Hp->List Nat->List Value->Prop}{x:List Value}(Y:YldP E e J n P)(s:ItS d D h F)(f:J i h F)(g:i<n)(j:P i h F x)(k: ∀h' F',J (i+1) h' F'->ItS d D h' F'->Mo (· ∈F) h h'->(∀b∈F',b∈F\/h.n<=b)->K .normal (l.put o.dst (.bool true)) h'):gK E cx o l K (some (.yield e x,h)):=by
 refine uQ (Y.round i x h F g j f) ?_;rintro q h' ⟨rfl,F',a,b,c⟩;exact k h' F' a (s.mo b c (Y.lt _ _ _ a).2) b c
def encV(w:Value):List Value:=[w]
theorem sF(w:Value):(encV w).length=1:=rfl
theorem Bw(l:List Value):l.flatMap encV=l:=by
 induction l with
 |nil=>rfl|cons x l a=>rw [zO,a];rfl
def cS(h:Hp)(m:Nat)(v:Value)(n:Nat)(R:Nat->List Int):Prop:=
 ∃a:List Value,aH h 1 encV v a/\a.length=n/\(∀c,aA v c->m<=c)/\ ∀i w,a[i]? =some w->aH h 1 (encI .i64) w (R i)/\ ∀c,aA w c->m<=c
theorem cS.mo{M:Nat->Prop}{h h':Hp}{m n:Nat}{v:Value}{R:Nat->List Int}(r:cS h m v n R)(g:Mo M h h')(k: ∀b,M b->b<m):cS h' m v n R:=by obtain⟨l,a,b,c,d⟩:=r;exact⟨l,a.mo g (fun x e f=>by have:=c x e;have:=k x f;omega),b,c,fun i w j=>⟨(d i w j).1.mo g (fun x e f=>by have:=(d i w j).2 x e;have:=k x f;omega),(d i w j).2⟩⟩
theorem cS.gr(r:cS h m v n R)(g:Gr h h'):cS h' m v n R:=r.mo (M:=NoM) g.fr (fun _ h=>h.elim)
theorem cS.low{f:Nat}(r:cS h m v n R)(g:f<=m):cS h f v n R:=by obtain⟨k,a,b,c,d⟩:=r;exact⟨k,a,b,fun x e=>Xe g (c x e),fun i w j=>⟨(d i w j).1,fun x e=>Xe g ((d i w j).2 x e)⟩⟩
theorem cS.row(r:cS h m v n R)(k:i<n): ∃w,(∃c o,iC (some 1) v (.int .i64 (i:Nat))=some (.pointer (some ⟨c,o,none⟩))/\h.load c o 1=some [w])/\aH h 1 (encI .i64) w (R i)/\ ∀c,aA w c->m<=c:=by obtain⟨e,a,b,c,d⟩:=r;obtain⟨q,o,g,j⟩:=a.ix (kd:=.i64) sF (i:=i) (by omega);have f:e[i]? =some e[i]:=Xj (by omega);exact⟨e[i],⟨q,o,g,j⟩,(d i _ f).1,(d i _ f).2⟩
theorem flat_nat(l:List Nat):l.flatMap gC=(l.map fun(x:Nat)=>(x:Int)).flatMap (encI .i64):=by
 induction l with
 |nil=>rfl|cons x l a=>rw [zO,Yg,zO,a];rfl
theorem sl_nat{l:List Nat}(s:aH h 1 gC v l):aH h 1 (encI .i64) v (l.map fun(x:Nat)=>(x:Int)):=by
 rcases s with⟨rfl,rfl⟩|⟨b,o,s,c,rfl,d,a⟩
 . exact .inl ⟨rfl,rfl⟩
 . refine .inr ⟨b,o,s,c,by grind,by grind,?_⟩;rw [Xv,a,flat_nat]
def gU(N:Nat)(l:List Int):Prop:=l.length<=16/\ ∀i,i<l.length->0<=l.getD i 0/\l.getD i 0<N/\l.getD i 0∉l.take i
theorem gU.push(h:gU N l)(d:l.length<16){x:Int}(f:0<=x)(g:x<N)(j:x∉l):gU N (l++[x]):=by
 refine⟨by simp;omega,fun i b=>?_⟩;simp at b;by_cases e:i=l.length
 . grind
 . have a:i<l.length:=(by omega);have c:(l++[x]).getD i 0=l.getD i 0:=(by grind);rw [c,X9 (by omega)];exact h.2 i a
theorem mayL_nil(N:Nat):gU N []:=⟨by simp,fun i a=>by simp at a⟩
structure TabAt(h:Hp)(m:Nat)(p:Value)(N:Nat)(marks:List Int)(R Q:Nat->List Int):Prop where
 ex: ∃b vM vT vF,p=ptrTo b/\Row h b [.int .i64 N,vM,vT,vF] 1/\aH h 1 (encI .i64) vM marks/\cS h m vT marks.length R/\cS h m vF marks.length Q/\m<=b/\ ∀c,aA vM c->m<=c
theorem TabAt.mo{M:Nat->Prop}{h h':Hp}{m N:Nat}{p:Value}{a:List Int}{R Q:Nat->List Int}(t:TabAt h m p N a R Q)(g:Mo M h h')(c: ∀b,M b->b<m):TabAt h' m p N a R Q:=by obtain⟨b,d,f,i,e,j,k,l,n,q,r⟩:=t.ex;exact⟨b,d,f,i,e,g.has (o:=.row _ 1) j (fun h=>by grind),k.mo g (fun x s u=>by grind),l.mo g c,n.mo g c,q,r⟩
theorem TabAt.gr{a:List Int}(t:TabAt h m p N a R Q)(g:Gr h h'):TabAt h' m p N a R Q:=t.mo (M:=NoM) g.fr (fun _ h=>h.elim)
theorem cS.lenq{h h':Hp}{m n:Nat}{v:Value}{R:Nat->List Int}{e:TypeId}(r:cS h' m v n R):oX (some (.slice e)) h v=some (.val (.int .i64 n),h):=by have⟨c,a,b,_⟩:=r;rw [<-b];exact a.lenq
theorem may1_ok{e:Hp}(C:OZ e){t g:Nat}{x:Int}{v:List (Value×Value×Nat)}{f:Int->Option Value}(e5:e.load t 0 1=some [.map (some g)])(D:e.load u 0 1=some [.int .i64 N])(y:e.get g=some (.map v c))(A:fg v c f)(hf:(f x).getD (.int .i64 0)=.int .i64 k)(I:k<=1)(E:t≠g)(F:u≠g):Ret zB 108 [.int .i64 x,ptrTo t,ptrTo u] e fun r h'=>Mo (· =g) e h'/\r=.bool (decide (x<0\/(N:Int)<=x\/k=1))/\ ∃a d,h'.get g=some (.map a d)/\fg a d (fG f x (some (.int .i64 (k+1:Nat)))):=by
 have S:=St.init1 C (o:=.map v c) y;have B:=xG (x:=x) t187.1 Tryz.t3.1 (z:=.int .i64 0) (by kernel_rfl) y A;rw [hf]at B;have w:am .i64 ((k:Int)+1)=((k+1:Nat):Int):=by rw [wrap64]<;>omega
 refine erA (n:=22) (rs:=[.tmp 4]) e108 ?_;simp only [BZ,e5,B,w,seval];refine au (S.mputI (i:=0) rfl t187.1 Tryz.t3.1 A _) ?_;clear S;rintro h ⟨_,a,d,b,S⟩;simp only [LC]at S;have p:=S.old e5 E;have j:=S.old D F;have q:h.get g=some (.map a d):=(S.own _ m0).2;have l:=xG (x:=x) t187.1 Tryz.t3.1 (z:=.int .i64 0) (by kernel_rfl) q b;rw [show fG f x (some (.int .i64 ((k+1:Nat):Int))) x=some (.int .i64 ((k+1:Nat):Int)) by unfold fG;rw [if_pos rfl],Yo]at l;by_cases m:x<0
 . simp only [BZ,ab,m,seval];exact⟨S.fr,by simp [m],a,d,q,b⟩
 . by_cases s:(N:Int)<=x
   . simp only [BZ,ab,j,m,s,seval];exact⟨S.fr,by simp [s],a,d,q,b⟩
   . by_cases G:k=1
     . subst G;simp only [BZ,ab,Xn,p,j,m,s,l,seval];exact⟨S.fr,by simp,a,d,q,b⟩
     . have H:k=0:=(by omega);subst H;simp only [BZ,ab,Xn,p,j,m,s,l,seval];exact⟨S.fr,by simp [m,s],a,d,q,b⟩
def pP(N:Nat)(l:List Int)(i:Nat):Prop:=0<=l.getD i 0/\l.getD i 0<N/\l.getD i 0∉l.take i
theorem mayIdx_ok(W:OZ a)(C:aH a 1 (encI .i64) v l)(hl:l.length<=1000)(e5:a.load u 0 1=some [.map (some d)])(D:a.load y 0 1=some [.int .i64 N])(M:a.get d=some (.map [] 0))(O:u≠d)(P:y≠d):Ret zB 172 [v,.func (.func 108) #[] #[ptrTo u,ptrTo y]] a fun r h'=>Mo (· =d) a h'/\ ∃z,r=.int .i64 z/\(0<=z↔ ¬ ∀i,i<l.length->pP N l i):=by
 have E: ∀c,aA v c-> ¬c=d:=by
  rintro c Q rfl;rcases C with⟨rfl,_⟩|⟨b,o,s,R,rfl,_,X⟩
  . exact Q.elim
  . have:b=c:=Q;subst this;simp [Hp.load,M]at X
 refine erA (n:=19) (rs:=[.tmp 4]) e172 ?_;simp only [BZ,C.lenq,seval];refine aD (fun(i:Nat) m h=>i<=l.length/\Mo (· =d) a h/\(∃F c f,h.get d=some (.map F c)/\fg F c f/\ ∀x,f x=if x∈l.take i then some (.int .i64 1)else none)/\(∀j,j<i->pP N l j)/\m 0=v/\m 1=.func (.func 108) #[] #[ptrTo u,ptrTo y]/\m 7=.int .i64 l.length/\m 8=.int .i64 i) (fun i=>l.length-i) ?_ 0 _ _ ?_
 . intro i Y m h ⟨hi,mo,⟨F,c,f,hg,MI,hf⟩,hok,r0,r1,r7,r8⟩;by_cases hlt:i<l.length
   . obtain ⟨q,o,p,G⟩:=(C.mo mo E).ix (kd:=.i64) (aE .i64) hlt;have w:am .i64 ((i:Int)+1)=((i+1:Nat):Int):=(by rw [wrap64]<;>omega);have S: ∀{b:Nat} {x},b≠d->a.load b 0 1=some x->h.load b 0 1=some x:=fun H e=>(by have:=mo.get _ (bU mo.ok0 e) H;unfold Hp.load at e⊢;rw [this];exact e);have I:l.getD i 0=l[i]:=(by simp [Xf,hlt]);simp only [BZ,r0,r1,r7,r8,aq,hlt,p,G,encI,seval];refine step_ret (may1_ok mo.ok (x:=l[i]) (N:=N) (k:=if l[i]∈l.take i then 1 else 0) (S O e5) (S P D) hg MI (by rw [hf];split<;>rfl) (by split<;>omega) O P) ?_;rintro r h' ⟨Z,rfl,J,R,K,L⟩;have t:=mo.trans Z (fun _ h=>.inl h);by_cases g:pP N l i
     . have e:decide (l[i]<0\/(N:Int)<=l[i]\/(if l[i]∈l.take i then 1 else 0)=1)=false:=(by obtain⟨w1,w2,T⟩:=g;rw [I]at w1 w2 T;rw [if_neg T];simp;omega);rw [e];have A:l[i]∉l.take i:=(by have:=g.2.2;rwa [I]at this);simp only [BZ,r8,w,seval];refine Y (i+1) _ _ (by omega) ⟨by omega,t,⟨J,R,_,K,L,fun x=>?_⟩,fun j U=>?_,by simp [ao,r0,r1,ah,r7]⟩
       . have V:=Xa hlt;rw [if_neg A];unfold fG;by_cases B:x=l[i]
         . rw [if_pos B,if_pos (by rw [V];exact YY _ (List.mem_singleton.2 B))];rfl
         . rw [if_neg B,hf];have:x∈l.take (i+1)↔x∈l.take i:=(by rw [V,Yq,XM];exact⟨fun h=>h.resolve_right B,.inl⟩);simp only [this]
       . by_cases D:j=i
         . subst D;exact g
         . exact hok j (by omega)
     . have e:decide (l[i]<0\/(N:Int)<=l[i]\/(if l[i]∈l.take i then 1 else 0)=1)=true:=by
        unfold pP at g;rw [I]at g;simp only [decide_eq_true_eq];by_cases A:l[i]∈l.take i
        . rw [if_pos A];exact .inr (.inr rfl)
        . by_cases a1:l[i]<0
          . exact .inl a1
          . by_cases a2:(N:Int)<=l[i]
            . exact .inr (.inl a2)
            . exact absurd ⟨by omega,by omega,A⟩ g
       rw [e];simp only [BZ,ab,seval];exact⟨t,_,rfl,by simp only [X5,true_iff];exact fun h=>g (h i hlt)⟩
   . simp only [BZ,ab,r7,r8,aq,hlt,seval];exact⟨mo,_,rfl,⟨fun h=>by omega,fun h=>absurd (fun j U=>hok j (by omega)) h⟩⟩
 . exact⟨Xg _,Mo.refl W,⟨[],0,fun _=>none,M,yz,fun x=>by simp⟩,fun j U=>by omega,by simp [ao,ct,cP,ah]⟩
noncomputable instance mayDec(N:Nat)(l:List Int):Decidable (gU N l):=Classical.propDecidable _
theorem mayCf_ok(m:OZ a){f:Nat}(o:aH a 1 (encI .i64) v l)(p:l.length<=1000)(e5:a.load e 0 1=some [.map (some b)])(q:a.load f 0 1=some [.int .i64 N])(s:a.get b=some (.map [] 0))(t:e≠b)(u:f≠b)(d:Decidable (∀i,i<l.length->pP N l i)):Ret zB 109 [v,.func (.func 108) #[] #[ptrTo e,ptrTo f]] a fun r h'=>Mo (· =b) a h'/\r=.bool (!decide (∀i,i<l.length->pP N l i)):=by
 refine erA (n:=9) (rs:=[.tmp 4]) e109 ?_;simp only [BZ,seval];refine step_ret (mayIdx_ok m o p e5 q s t u) ?_;rintro r h ⟨j,z,rfl,k⟩;by_cases c: ∀i,i<l.length->pP N l i
 . have g: ¬(0<=z):=fun h=>k.1 h c;simp only [BZ,ab,g,seval];exact⟨j,by rw [decide_eq_true c];rfl⟩
 . have g:0<=z:=k.2 c;simp only [BZ,ab,g,seval];exact⟨j,by rw [decide_eq_false c];rfl⟩
theorem may_ok(t:OZ a)(j:aH a 1 (encI .i64) v l)(u:l.length<=1000):cj zB 48 [.int .i64 N,v] a (.bool (decide (gU N l))):=by
 have S:=Si t;refine erA (n:=18) (rs:=[.tmp 4]) e48 ?_;simp only [BZ,seval];refine ag (bK (by intro x e;cases e)) S ?_;clear S;intro h w S q;simp only [ae]at S;simp only [BZ];refine ag xj S ?_;clear S;intro h B S f;simp only [BZ];refine ag ay S ?_;clear S;intro h y S s;simp only [BZ,seval];refine au (aw S (i:=0) rfl ?_ ?_ ?_ ono) ?_
 . exact(by simp only [FA0])
 . exact(by exact fl_map)
 . exact Xb (lbt rfl)
 clear S;rintro h ⟨S,k⟩;clear k;simp only [LC,ae,lay,Xo,Xp,seval]at S;by_cases g:l.length<=16
 . have m:(l.length:Int)<=16:=(by omega);simp only [BZ,j.lenq,m,seval];have p:=S.apart;simp only [keys,Yg,List.map_nil,List.filterMap_nil,XS,List.nodup_cons,X3,XY,or_false,not_or]at p;have d:Decidable (∀i,i<l.length->pP N l i):=Classical.propDecidable _;refine step_ret (mayCf_ok S.ok (j.gr S.gr) u (S.ld (b:=y) (o:=0) m0 rfl) (S.ld (b:=w) (o:=0) m2 rfl) (S.own _ m1).2 p.1.1 (fun e=>p.2.1 e.symm) d) ?_;rintro r h ⟨k,rfl⟩;have z:Gr a h:=(S.fr.trans k (fun c A=>.inr (by subst A;exact f)):Mo NoM a h).gr;simp only [BZ,ab,seval];refine⟨?_,z⟩;congr 1;by_cases c: ∀i,i<l.length->pP N l i
   . have:gU N l:=⟨g,c⟩;rw [decide_eq_true c,decide_eq_true this];rfl
   . have: ¬gU N l:=fun h=>c h.2;rw [decide_eq_false c,decide_eq_false this];rfl
 . have m: ¬(l.length:Int)<=16:=(by omega);simp only [BZ,ab,j.lenq,m,seval];exact⟨by have: ¬gU N l:=fun h=>g h.1;simp [this],S.gr⟩
open Classical in
noncomputable def dOf(B:List Arc)(s v:Nat):Nat:=if h: ∃x,IsD B s v x then h.choose else 0
theorem vW{B:List Arc}{s v:Nat}(h:IsD B s v x):dOf B s v=x/\IsD B s v (dOf B s v):=by
 have a: ∃x,IsD B s v x:=⟨x,h⟩;have e:dOf B s v=a.choose:=by unfold dOf;rw [dif_pos a]
 rw [e];exact⟨a.choose_spec.uniq h,a.choose_spec⟩
noncomputable def qd(B:List Arc)(N s:Nat):List Int:=(zM N).map fun v=>((dOf B s v:Nat):Int)
theorem rowD_of{B:List Arc}{s:Nat}{D:Nat->Nat}(h: ∀v,IsD B s v (D v)):((zM N).map D).map (fun(x:Nat)=>(x:Int))=qd B N s:=by unfold qd;rw [Yb];refine XJ fun v _=>?_;show((D v:Nat):Int)=_;rw [(vW (h v)).1]
def RunF(E:Env)(g:FuncId)(a:Gra)(b:Value)(B:List Arc):Prop:= ∀(h:Hp) (d:Nat),OZ h->cI h d b a-> ∀s,s<a.nodes->Ret E g [b,.int .i64 (s:Nat)] h fun r c=>Gr h c/\zh c h.n r B s a.nodes
theorem runTo{a:Gra}(b:Good a){c:Value}:RunF zB 53 a c (seen a.arcs Arc.t Arc.s):=fun h g d e s f=>u5 d b e f
theorem runFrom{a:Gra}(b:Good a){c:Value}:RunF zB 54 a c (seen a.arcs Arc.s Arc.t):=fun h g d e s f=>wF d b e f
def PRow(m:Nat)(R:Nat->List Int)(i:Nat)(h:Hp)(F:List Nat)(x:List Value):Prop:= ∃w,x=[w]/\aH h 1 (encI .i64) w (R i)/\ ∀c,aA w c->m<=c/\c∉F
theorem rows_ok(k:OZ a){i j:Value}(l:Fl p)(m:Fl i)(o:Fl j):Ret zB 52 [p,i,j] a fun v h'=>Gr a h'/\ ∃b c d,v=.func (.func 111) #[] #[ptrTo b,ptrTo c,ptrTo d]/\a.n<=b/\a.n<=c/\a.n<=d/\h'.load b 0 1=some [i]/\h'.load c 0 1=some [j]/\h'.load d 0 1=some [p]:=by have S:=Si k;refine erA (n:=8) (rs:=[.tmp 6]) Tryz.e52 ?_;simp only [BZ,seval];refine ag (dU (by assumption)) S ?_;clear S;intro h d S e;simp only [BZ,if_false,seval];refine ag (dU (by assumption)) S ?_;clear S;intro h b S f;simp only [BZ,if_false,seval];refine ag (dU (by assumption)) S ?_;clear S;intro h c S g;simp only [BZ,ab,seval];exact⟨S.gr,b,c,d,rfl,f,g,e,S.ld m1 rfl,S.ld m0 rfl,S.ld m2 rfl⟩
theorem rows_it{d:Hp}(E:OZ hq)(e:OZ d)(S:ia hq d)(T:hq.n<=d.n){y:Value}{j:Gra}{G q:Nat}(U:cI hq G y j)(I:aH d 1 (encI .i64) p l)(H: ∀i,i<l.length->0<=l.getD i 0/\l.getD i 0<j.nodes)(K:l.length<1000){B:List Arc}(V:RunF zB g j y B)(W:m<=d.n)(X:d.load z 0 1=some [p])(Z:d.load q 0 1=some [.func (.func g) #[] #[]])(e3:d.load r 0 1=some [y]):IterP zB 111 [ptrTo z,ptrTo q,ptrTo r] d (fun c=>c=z\/c=q\/c=r\/aA p c\/c<hq.n) l.length (PRow m fun i=>qd B j.nodes (l.getD i 0).toNat):=by
 intro lb J Y h F s A;refine enA (n:=22) (rs:=[]) e111 ?_;have L:=s.load e X (.inl rfl);simp only [BZ,L,I.lenq,seval];refine aD (fun(i:Nat) f h=>i<=l.length/\ ∃F,ItS d (fun c=>c=z\/c=q\/c=r\/aA p c\/c<hq.n) h F/\J i h F/\f 0=.func (.yield lb) #[] #[]/\f 2=ptrTo q/\f 3=ptrTo r/\f 7=p/\f 8=.int .i64 l.length/\f 9=.int .i64 i) (fun i=>l.length-i) ?_ 0 _ _ ?_
 . clear L;intro i ih f h ⟨hi,F,s,A,r0,r2,r3,r7,r8,r9⟩;by_cases hlt:i<l.length
   . obtain⟨c,o,t,u⟩:=(s.sl e I (fun b h=>.inr (.inr (.inr (.inl h))))).ix (kd:=.i64) (aE .i64) hlt;have l2:=s.load e Z (.inr (.inl rfl));have l3:=s.load e e3 (.inr (.inr (.inl rfl)));have nt:cI h G y j:=U.keep E (s.keep S T (fun c C=>.inr (.inr (.inr (.inr C)))));have w:am .i64 ((i:Int)+1)=((i+1:Nat):Int):=(by rw [wrap64]<;>omega);have M:l.getD i 0=l[i]:=(by simp [Xf,hlt]);have N:=H i hlt;rw [M]at N;obtain⟨mk,x⟩: ∃k:Nat,l[i]=k:=⟨l[i].toNat,by omega⟩;rw [x]at u N;simp only [BZ,r0,r2,r3,r7,r8,r9,aq,hlt,t,u,encI,l2,l3,seval];refine step_ret (V h G s.ok nt mk (by omega)) ?_;rintro v P ⟨Q,R,vA,vO,D,aL,O,rfl,s1,s2,s3,t4,t5,t6,t7,t8⟩;simp only [BZ,seval];refine Ek Y (s.gr Q) (Y.gr _ _ _ _ A Q) (i:=i) hlt ⟨R,rfl,?_,fun c C=>⟨?_,fun hF=>?_⟩⟩ ?_
     . have:=sl_nat s1;rw [rowD_of t5]at this;show aH P 1 _ R (qd B j.nodes (l.getD i 0).toNat);rw [M,x];exact this
     . exact Xe W (Xe s.n (t6 c (.inl C)))
     . have h1:=s.lt c hF;have P:=t6 c (.inl C);omega
     . intro h' F' a s' _ _;simp only [BZ,r9,w,seval];exact ih (i+1) _ _ (by omega) ⟨by omega,F',s',a,by simp [ao,r0,r2,ah,r3,r7,r8]⟩
   . simp only [BZ,r8,r9,aq,hlt,seval];have:i=l.length:=(by omega);subst this;exact dG (cy ⟨rfl,_,rfl,rfl,_,F,rfl,A⟩)
 . exact⟨by omega,F,s,A,by simp [ao,cC,ah]⟩
theorem DC{q:Hp}(ok:OZ q)(it:IterP zB g post.toList q D n (PRow m R))(G:m<=q.n)(hn:n<1000):Ret zB 110 [.slice none 0 0,.func (.func g) #[] post] q fun r h'=>Gr q h'/\cS h' m r n R:=by
 have S:=Si ok;refine erA (n:=13) (rs:=[.tmp 4]) e110 ?_;simp only [BZ,seval];refine ag (dU (by exact bW)) S ?_;clear S;intro h v S W;simp only [BZ,if_false,seval];replace S:=S.nilG (k:=1);have g0:=S.gr;refine kH S (g:=g) (a:=#[]) (b:=post) (by simp [bS,ao,ct,cP]) rfl rfl ?_;intro Y C y z ac ad g2;obtain⟨X,Z,z⟩: ∃X:iI,X=_/\St NoM q Y [(y,.loop X),(C,.dfr),(v,.row [.slice none 0 0] 1)] [(.slice none 0 0,1,[])]:=⟨_,rfl,z⟩;have hJ:YldP zB y (fun k h' F=> ∃(f:List Value) (p:Value),St NoM q h' [(y,.loop X),(C,.dfr),(v,.row [p] 1)] [(p,1,f)]/\f.length=k/\k<=n/\(∀i w,f[i]? =some w->aH h' 1 (encI .i64) w (R i)/\ ∀c,aA w c->m<=c/\c∉F)/\F=keys [(y,.loop X),(C,.dfr),(v,.row [p] 1)] [(p,1,f)]) n (PRow m R):=by
  refine⟨?_,?_,?_⟩
  . rintro i h F ⟨f,p,S,_,_,_,rfl⟩;exact⟨S.ok,fun b A=>S.key_lt A⟩
  . rintro i h F h' ⟨f,p,S,a,b,c,rfl⟩ gg;exact⟨f,p,S.call gg,a,b,fun i w l=>⟨(c i w l).1.gr gg,(c i w l).2⟩,rfl⟩
  . rintro i x hR F hi ⟨w,rfl,sw,l⟩ ⟨f,p,S,a,b,c,rfl⟩;subst Z;obtain⟨J,K,N,rfl⟩:=sw.form;have fw:Fl (.slice J K N):=bW;refine kK (S.get m0) (by rw [e110];rfl) rfl ?_;have P:=S;replace S:=S.base;simp only [BZ,seval];refine jP S (i:=0) rfl rfl rfl rfl rfl ?_;clear S;intro h S;simp only [LC]at S;simp only [BZ,S.ld (b:=v) (o:=0) m2 rfl,seval];refine ag (bD (by exact t39.1) (by exact Y7) (by decide) (by rfl)) S ?_;clear S;intro h bs S aa;simp only [LC,bA,bN,ae,Xs,Xd,Xr,Xy,seval]at S;simp only [BZ,seval];have H:aF h 1 (.slice (some ⟨bs,0,none⟩) 1 1)=some (1,[.slice J K N]):=(by simp only [aF];rw [S.lds (b:=bs) (o:=0) (n:=1*1) m0 (lbt rfl)];rfl);replace S:=S.drop1;refine dq (S.grow (j:=0) (m:=1) (new:=[.slice J K N]) rfl t39.1 Y7 (by decide) t39.2.2.2.2.2 H rfl (by decide) (by simp [fw.2.1]) (by simp;omega)) ?_;clear S H;rintro h s S;simp only [LC]at S;have fv:Fl s:=by
     rcases(S.gown _ m0).1 with⟨e,_⟩|⟨_,_,e,_⟩
     . rw [show s=_ from e];exact bW
     . rw [show s=_ from e];exact bW
    simp only [BZ,seval];refine au (aw S (i:=2) rfl t39.2.2.1 fv (Xb (lbt rfl)) ono) ?_;clear S;rintro h ⟨S,_⟩;simp only [LC]at S;simp only [BZ];refine gR S (i:=0) rfl ?_;clear S;intro h S;simp only [LC]at S;refine⟨rfl,_,⟨f++[.slice J K N],s,P.rebase S,by simp [a],by omega,fun j u E=>?_,rfl⟩,S.fr,S.key_new⟩;have t:aH h 1 (encI .i64) u (R j)/\ ∀c,aA u c->m<=c/\c∉keys [(y,Ob.dfr),(C,.dfr),(v,.dfr)] [(p,1,f)]/\c<hR.n:=by
     by_cases hj:j<f.length
     . rw [XL hj]at E;obtain⟨O,B⟩:=c j u E;exact⟨O.mo S.fr (fun x d I=>(B x d).2 I),fun x d=>⟨(B x d).1,(B x d).2,O.lt P.ok d⟩⟩
     . rw [XH (by omega)]at E;have Q:j-f.length=0:=(by have:=(List.getElem?_eq_some_iff.1 E).1;simp at this;omega);rw [Q]at E;cases E;have:j=f.length:=(by omega);subst this;rw [a];exact⟨sw.mo S.fr (fun x d I=>(l x d).2 I),fun x d=>⟨(l x d).1,(l x d).2,sw.lt P.ok d⟩⟩
    refine⟨t.1,fun x d=>⟨(t.2 x d).1,fun G=>?_⟩⟩;rcases S.key_new x G with h1|h1
    . exact(t.2 x d).2.1 h1
    . have:=(t.2 x d).2.2;omega
 refine d7 (it y _ hJ Y _ ?_ ⟨[],_,z,rfl,Xg _,fun i w l=>by simp at l,rfl⟩) ?_
 . exact⟨z.ok,z.fr.n,fun b A _=>z.gr.get b A,fun b A h=>by have:=(z.key_own A).elim (fun h=>h) (fun h=>h.elim);omega,fun b A=>z.key_lt A⟩
 . rintro o rc h' ⟨rfl,u,F,rfl,f,p,T,a,_,c,rfl⟩;subst Z;refine⟨_,T.get m0,X7,?_⟩;have U: ∀i w,f[i]? =some w->aH (h'.put y .dead) 1 (encI .i64) w (R i)/\ ∀c,aA w c->m<=c/\c∉keys [(C,.dfr),(v,.row [p] 1)] [(p,1,f)]:=fun i w l=>(by obtain⟨O,B⟩:=c i w l;exact⟨O.mo ((Mo.refl (M:=(· =y)) T.ok).put (.inr rfl) .dead) (fun x d e=>(B x d).2 (by rw [e];exact m0)),fun x d=>⟨(B x d).1,fun G=>(B x d).2 (XW _ G)⟩⟩);replace T:=T.dead;have S:=T;show Run _ _ _ _ _ _ _ _;simp only [BZ,S.ld (b:=v) (o:=0) m1 rfl,seval];refine ig (ib [C] _ (L:=[(v,_)]) T.base fun h3 V=>⟨rfl,_,rfl,?_⟩);refine⟨(T.fr.trans V.fr (fun c hc=>(T.key_own hc).symm):Mo NoM q h3).gr,f,?_,a,fun x d=>?_,fun i w l=>⟨(U i w l).1.mo V.fr (fun x d I=>((U i w l).2 x d).2 I),fun x d=>((U i w l).2 x d).1⟩⟩
   . exact(V.gown _ m0).1.sl (Bw f).symm sF (by decide)
   . exact Xe G (((T.gblk m0 d).1).elim (fun h=>h) (fun h=>h.elim))
theorem yO(b:OZ a){g:FuncId}(c:IterP zB g post.toList a D n (PRow m R))(d:m<=a.n)(e:n<1000):Ret zB 51 [.func (.func g) #[] post] a fun r h'=>Gr a h'/\cS h' m r n R:=by
 have S:=Si b;refine erA (n:=5) (rs:=[.tmp 2]) Tryz.e51 ?_;simp only [BZ,seval];refine step_ret (DC S.ok c d e) ?_;intro v h ⟨g,L⟩;replace S:=S.call g;simp only [BZ,ab,seval];exact⟨S.gr,L⟩
def IterW(E:Env)(g:FuncId)(post:List Value)(a:Hp)(D W:Nat->Prop)(xs:List (List Value)):Prop:=
 ∀c J Z,(∀v h,¬Z (.pan v) h)->Yld E c J Z xs->(∀i h F d,J i h F->Mo W h d->J i d F)-> ∀h F,ItS a D h F->(∀b,W b->h.get b=a.get b)->(∀b∈F,¬W b)->J 0 h F->dE E g ([]++[.func (.yield c) #[] #[]]++post) none h (YQ J Z xs.length)
theorem iter_w{post:List Value}{xs:List (List Value)}(H:vb E g [] post a D xs):IterW E g post a D NoM xs:=fun b J Z c Y _ h F s _ _ d=>H b J Z c Y h F s d
theorem natC_len(l:List Nat):(l.flatMap gC).length=l.length:=by rw [aK jt];omega
theorem gkey_blk{p:GL}(g:kB h p)(a:aA p.1 c):gy p=some c:=by
 rcases g with⟨e,_⟩|⟨b,n,e,_⟩
 . rw [e]at a;exact a.elim
 . obtain⟨v,k,d⟩:=p;simp only []at e a;subst e;exact congrArg some a
theorem BH{d:Hp}(Z:OZ d){W:Nat->Prop}(it:IterW zB g post.toList d D W (xs.map fun(x:Nat)=>[.int .i64 x]))(J: ∀b,W b->b<d.n)(hn:xs.length<100000):Ret zB 221 [.slice none 0 0,.func (.func g) #[] post] d fun r h'=>Mo W d h'/\kB h' (r,1,xs.flatMap gC)/\ ∀c,aA r c->d.n<=c:=by
 have S:=Si Z;refine erA (n:=13) (rs:=[.tmp 4]) e221 ?_;simp only [BZ,seval];refine ag (dU (by exact bW)) S ?_;clear S;intro h p S u;simp only [BZ,if_false,seval];replace S:=S.nilG (k:=1);have K:=S.gr;replace S:=S.monoM (M:=W);have E:=S.fr;refine kH S (g:=g) (a:=#[]) (b:=post) (by simp [bS,ao,ct,cP]) rfl rfl ?_;intro G v t q aa ac N;obtain⟨X,O,q⟩: ∃X:iI,X=_/\St W d G [(t,.loop X),(v,.dfr),(p,.row [.slice none 0 0] 1)] [(.slice none 0 0,1,[])]:=⟨_,rfl,q⟩;have P: ∀c,d.n<=c-> ¬W c:=fun c h H=>by have:=J c H;omega
 have hJ:Yld zB t (fun k h' F=> ∃(f:Value),St W d h' [(t,.loop X),(v,.dfr),(p,.row [f] 1)] [(f,1,(xs.take k).flatMap gC)]/\k<=xs.length/\(∀c∈F,d.n<=c)/\F=keys [(t,.loop X),(v,.dfr),(p,.row [f] 1)] [(f,1,(xs.take k).flatMap gC)]) (fun _ _=>False) (xs.map fun(x:Nat)=>[.int .i64 x]):=by
  refine⟨?_,?_,fun _ _ h=>h.elim,?_⟩
  . rintro i h F ⟨f,S,_,_,rfl⟩;exact⟨S.ok,fun b l=>S.key_lt l⟩
  . rintro i h F h' ⟨f,S,a,b,rfl⟩ C;exact⟨f,S.call C,a,b,rfl⟩
  . rintro i x hR F w ⟨f,S,a,b,rfl⟩;have z:i<xs.length:=(by have:=(List.getElem?_eq_some_iff.1 w).1;simpa using this);rw [XD,Xj z]at w;cases w;have tk:(xs.take (i+1)).flatMap gC=(xs.take i).flatMap gC++[.int .i64 (xs[i]:Nat)]:=(by rw [List.take_add_one,Xj z,Xz];rfl);have tl:(xs.take i).length<=i:=(by rw [XC];omega);subst O;refine kK (S.get m0) (by rw [e221];rfl) rfl ?_;have Q:=S;replace S:=S.base;simp only [BZ,seval];refine jP S (i:=0) rfl rfl rfl rfl rfl ?_;clear S;intro h S;simp only [LC]at S;simp only [BZ,S.ld (b:=p) (o:=0) m2 rfl,seval];refine ag (bD (by exact t38.1) (by exact Yn) (by decide) (by rfl)) S ?_;clear S;intro h R S U;simp only [LC,bA,bN,ae,Xs,Xd,Xr,Xy,seval]at S;simp only [BZ,seval];have A:aF h 1 (.slice (some ⟨R,0,none⟩) 1 1)=some (1,[.int .i64 (xs[i]:Nat)]):=(by simp only [aF];rw [S.lds (b:=R) (o:=0) (n:=1*1) m0 (lbt rfl)];rfl);replace S:=S.drop1;refine dq (S.grow (j:=0) (m:=1) (new:=[.int .i64 (xs[i]:Nat)]) rfl t38.1 Yn (by decide) t38.2.2.2.2.2 A rfl (by decide) rfl (by rw [natC_len];simp;omega)) ?_;clear S A;rintro h B S;simp only [LC]at S;have fv:Fl B:=(S.gown _ m0).1.fl;simp only [BZ,seval];refine au (aw S (i:=2) rfl t38.2.2.1 fv (Xb (lbt rfl)) ono) ?_;clear S;rintro h ⟨S,_⟩;simp only [LC]at S;simp only [BZ];refine gR S (i:=0) rfl ?_;clear S;intro h S;simp only [LC]at S;rw [<-tk]at S;have I:=Q.rebase S;refine .inl ⟨rfl,_,⟨B,I,by omega,fun c e=>?_,rfl⟩,S.fr,fun c e=>(S.key_own e).symm⟩;rcases S.key_own e with V|V
    . have:=Q.fr.n;omega
    . exact b c V
 have s: ∀c∈keys [(t,Ob.loop X),(v,.dfr),(p,.row [.slice none 0 0] 1)] [(.slice none 0 0,1,[])],d.n<=c:=fun c e=>by have n2:=u;have:=E.n;simp [keys,gy]at e;omega
 refine d7 (it t _ _ (fun _ _ h=>h) hJ ?_ G _ ?_ ?_ (fun c e=>P c (s c e)) ⟨_,q,Xg _,s,rfl⟩) fun o rc h' y=>qR y ?_
 . rintro i h F h' ⟨f,S,a,b,rfl⟩ C;exact⟨f,S.step C (fun c e=>.inl e) (fun c e H=>P c (b c e) H),a,b,rfl⟩
 . have C:Mo W d G:=q.fr;exact⟨q.ok,q.fr.n,fun b l _=>(K.trans N).get b l,fun b l h=>by have:=s b l;omega,fun b l=>q.key_lt l⟩
 . exact fun b l=>(K.trans N).get b (J b l)
 . rintro F ⟨f,T,a,b,rfl⟩;rw [Xv,XE]at T b;subst O;refine⟨_,T.get m0,X7,?_⟩;replace T:=T.dead;have S:=T;show Run _ _ _ _ _ _ _ _;simp only [BZ,S.ld (b:=p) (o:=0) m1 rfl,seval];refine ig (ib [v] _ (L:=[(p,_)]) T.base fun h3 Y=>⟨rfl,_,rfl,?_⟩);refine⟨(T.fr.trans Y.fr (fun c e=>(T.key_own e).symm):Mo W d h3),(Y.gown _ m0).1,fun x w=>?_⟩;refine b x ?_;have:gy (f,1,xs.flatMap gC)=some x:=gkey_blk (T.gown _ m0).1 w;exact nv m0 this
theorem DD(d:OZ a){W:Nat->Prop}(e:IterW zB g post.toList a D W (xs.map fun(x:Nat)=>[.int .i64 x]))(i: ∀b,W b->b<a.n)(j:xs.length<100000):Ret zB 185 [.func (.func g) #[] post] a fun r h'=>Mo W a h'/\kB h' (r,1,xs.flatMap gC)/\ ∀c,aA r c->a.n<=c:=by
 have S:=Si d;refine erA (n:=5) (rs:=[.tmp 2]) e185 ?_;simp only [BZ,seval];refine step_ret (BH S.ok e i j) ?_;rintro r h ⟨f,q⟩;simp only [BZ,ab,seval];exact⟨f,q⟩
theorem Fk{c:Hp}(r:OZ c){a b:Int}(d:aH c 1 (encI .i64) v [a,b]):cj zB 241 [.func (.func 242) #[] #[],v] c (.int .i64 (wy (wy (wy a)+wy b))):=by
 have S:=Si r;have l:=wy_bd a;have y:=wy_bd b;have z:=wy_bd (wy a);have s:am .i64 1=1:=rfl;have t:am .i64 2=2:=rfl;have u:am .i64 (wy a)=wy a:=by rw [wrap64]<;>omega
 have w:wy (wy a)=wy a:=wy_id l.1 l.2;have x:am .i64 (wy a+wy b)=wy a+wy b:=by rw [wrap64]<;>omega
 refine erA (n:=22) (rs:=[.tmp 4]) e241 ?_;simp only [BZ,Xn,d.lenq,seval];rw [d9];obtain⟨m,o,e,f⟩:=d.ix (kd:=.i64) (aE .i64) (i:=0) (by simp);replace e:iC (some 1) v (.int .i64 0)=some (.pointer (some ⟨m,o,none⟩)):=e;replace f:c.load m o 1=some [.int .i64 a]:=f;simp only [BZ,e,f,seval];refine ar (wB S.ok) ?_;intro h g;replace S:=S.call g;simp only [BZ,u,Int.zero_add,seval];refine ar (wB S.ok) ?_;intro h g;replace S:=S.call g;simp only [BZ,s,w,Int.zero_add,seval];rw [d9];obtain⟨p,q,j,k⟩:=(d.gr S.gr).ix (kd:=.i64) (aE .i64) (i:=1) (by simp);replace j:iC (some 1) v (.int .i64 1)=some (.pointer (some ⟨p,q,none⟩)):=j;replace k:h.load p q 1=some [.int .i64 b]:=k;simp only [BZ,j,k,seval];refine ar (wB S.ok) ?_;intro h g;replace S:=S.call g;simp only [BZ,x,seval];refine ar (wB S.ok) ?_;intro h g;replace S:=S.call g;simp only [BZ,t,seval];rw [d9];simp only [BZ,ab,seval];exact S.gr
theorem add_ok{c:Hp}(f:OZ c){a b:Int}:cj zB 235 [.int .i64 a,.int .i64 b] c (.int .i64 (wy (wy (wy a)+wy b))):=by have S:=Si f;refine erA (n:=9) (rs:=[.tmp 4]) e235 ?_;simp only [BZ,seval];refine ag (bD (by exact t23.1) (by exact X8) (by decide) (by rfl)) S ?_;clear S;intro h d S e;simp only [LC,bA,bN,ae,Xs,Xd,Xr,Xy,seval]at S;simp only [BZ,seval];refine ar (Fk S.ok (a:=a) (b:=b) (.inr ⟨d,0,none,2,rfl,XB _,S.lds (b:=d) (o:=0) (n:=2*1) m0 (lbt rfl)⟩)) ?_;intro h g;replace S:=S.call g;simp only [BZ,ab,seval];exact S.gr
structure jY(h:Hp)(nb:Nat)(p:Value)(N:Nat)(m:List Int)(c:Nat->Nat):Prop where
 at0:jF h nb p m
 len:m.length=N
 val: ∀v,v<N->m.getD v 0=(c v:Int)
theorem jY.gr{h h':Hp}{a N:Nat}{p:Value}{m:List Int}{c:Nat->Nat}(x:jY h a p N m c)(g:Gr h h'):jY h' a p N m c:=⟨x.at0.gr g,x.len,x.val⟩
theorem jY.keep{h h':Hp}{a N:Nat}{p:Value}{m:List Int}{c:Nat->Nat}(d:OZ h)(x:jY h a p N m c)(g:ia h h'):jY h' a p N m c:=by obtain⟨b,v,rfl,r,s,e,f⟩:=x.at0;exact⟨⟨b,v,rfl,g.row d r,s.keep d g,e,f⟩,x.len,x.val⟩
theorem AR(f:OZ a){g:Nat}{m:List Int}{c:Nat->Nat}(x:jY a g p N m c){v:Nat}(h:v<N):cj zB 183 [p,.int .i64 (v:Nat)] a (.int .i64 (c v:Nat)):=by
 have S:=Si f;obtain⟨b,u,rfl,r,s,_,_⟩:=x.at0;have j:=r.load1 (o:=0) rfl;have w:=x.len;have k: ¬(v:Int)<0:=by omega
 have l: ¬(m.length:Int)<=(v:Int):=by omega
 obtain⟨d,o,q,e⟩:=s.ix (kd:=.i64) (aE .i64) (i:=v) (by omega);have t:m[v]'(by omega)=(c v:Int):=by rw [<-x.val v h,Xf,Xj (by omega)];rfl
 rw [t]at e;replace e:a.load d o 1=some [.int .i64 (c v:Nat)]:=e;refine erA (n:=27) (rs:=[.tmp 4]) e183 ?_;simp only [BZ,ab,k,j,s.lenq,l,q,e,seval];exact S.gr
theorem inside_ok{g:Hp}(z:OZ g){B C q N:Nat}{d:Gra}{m:List Int}{c:Nat->Nat}(j:Good d)(D:cI g B (ptrTo q) d)(x:jY g C p d.nodes m c){a:Nat}(l:a<d.arcs.length):cj zB 124 [ptrTo q,p,.int .i64 (k:Nat),.int .i64 (a:Nat)] g (.bool (decide (c (d.arcs.getD a default).s=k/\c (d.arcs.getD a default).t=k))):=by
 have S:=Si z;have I:Fl p:=by obtain⟨b,_,rfl,_⟩:=x.at0;exact dB
 have r:d.arcs[a]=d.arcs.getD a default:=by simp [Xf,l]
 have E:d.arcs.getD a default∈d.arcs:=by rw [<-r];exact Xu l
 obtain⟨s,t,_⟩:=j.arcs _ E;refine erA (n:=34) (rs:=[.tmp 8]) e124 ?_;simp only [BZ,seval];refine step_ret (tM S.ok D l) ?_;rintro J h ⟨g4,rfl⟩;replace S:=S.call g4;rw [r];generalize d.arcs.getD a default=A at s t;simp only [BZ,cR,seval];refine ag ay S ?_;clear S;intro h u S v;simp only [BZ,seval];refine au (stA S (i:=0) t81.2.1) ?_;clear S;rintro h ⟨S,F⟩;clear F;simp only [LC,ae,lay,Xo,Xp,seval]at S;simp only [BZ,S.ld (b:=u) (o:=0) m0 rfl,seval];refine ar (AR S.ok (x.gr S.gr) s) ?_;intro K G;replace S:=S.call G;by_cases w:c A.s=k
 . have e:(c A.s:Int)=(k:Int):=(by omega);simp only [BZ,e,S.ld (b:=u) (o:=1) m0 rfl,seval];refine ar (AR S.ok (x.gr S.gr) t) ?_;intro L H;replace S:=S.call H;by_cases y:c A.t=k
   . have f:(c A.t:Int)=(k:Int):=(by omega);simp only [BZ,ab,f,seval];exact⟨by rw [decide_eq_true ⟨w,y⟩],S.gr⟩
   . have f: ¬(c A.t:Int)=(k:Int):=(by omega);simp only [BZ,ab,f,seval];exact⟨by rw [decide_eq_false (fun h=>y h.2)],S.gr⟩
 . have e: ¬(c A.s:Int)=(k:Int):=(by omega);simp only [BZ,ab,e,seval];exact⟨by rw [decide_eq_false (fun h=>w h.1)],S.gr⟩
theorem pairN{x:Option Tch}:mK none x=true:=by cases x<;>rfl
theorem ia.grk(k:ia hq a)(n:hq.n<=a.n)(g:Gr a h):ia hq h:=fun b c=>(g.get b (Xq c n)).trans (k b c)
def HoldP(E:Env)(hq:Hp)(g:FuncId)(post:List Value)(N:Nat)(f:Nat->Bool):Prop:= ∀h,OZ h->ia hq h->hq.n<=h.n-> ∀v,v<N->cj E g ([.int .i64 (v:Nat)]++post) h (.bool (f v))
theorem indexI_ok(b:OZ a)(t:ia hq a)(q:hq.n<=a.n)(m:aH a 1 gC v xs)(D:xs.length<=1000)(u: ∀x∈xs,x<N)(hf:HoldP zB hq g post.toList N f):Ret zB 172 [v,.func (.func g) #[] post] a fun r h'=>Gr a h'/\ ∃z:Int,r=.int .i64 z/\(0<=z↔xs.any f=true):=by
 have S:=Si b;have E:=m.fl;refine erA (n:=19) (rs:=[.tmp 4]) e172 ?_;simp only [BZ,m.lenq,seval];refine aD (fun(i:Nat) d h=>i<=xs.length/\Gr a h/\(∀j,(l:j<xs.length)->j<i->f xs[j]=false)/\d 0=v/\d 1=.func (.func g) #[] post/\d 7=.int .i64 (xs.length:Nat)/\d 8=.int .i64 i) (fun i=>xs.length-i) ?_ 0 _ _ ?_
 . clear S;intro i y d h ⟨hi,g1,hno,r0,r1,r7,r8⟩;have w:am .i64 ((i:Int)+1)=((i+1:Nat):Int):=(by rw [wrap64]<;>omega);by_cases hlt:i<xs.length
   . obtain⟨c,o,A,p⟩:=(m.gr g1).ix (kd:=.i64) jt hlt;replace p:h.load c o 1=some [.int .i64 (xs[i]:Nat)]:=p;simp only [BZ,r0,r1,r7,r8,aq,hlt,A,p,seval];refine ar (hf _ g1.ok (t.grk q g1) (Xe q g1.n) xs[i] (u _ (Xu hlt))) ?_;intro F s;cases k:f xs[i]with
     | true=>
       simp only [BZ,ab,seval];refine⟨g1.trans s,_,rfl,⟨fun _=>List.any_eq_true.2 ⟨_,Xu hlt,k⟩,fun _=>by omega⟩⟩
     | false=>
       simp only [BZ,r8,w,seval];refine y (i+1) _ _ (by omega) ⟨by omega,g1.trans s,fun j l B=>?_,by simp [ao,r0,r1,r7]⟩;by_cases e:j=i
       . subst e;exact k
       . exact hno j l (by omega)
   . simp only [BZ,ab,r7,r8,aq,hlt,seval];refine⟨g1,_,rfl,⟨fun h=>by omega,fun h=>?_⟩⟩;obtain⟨x,C,k⟩:=List.any_eq_true.1 h;obtain⟨j,l,e⟩:=List.getElem_of_mem C;rw [<-e,hno j l (by omega)]at k;cases k
 . exact⟨Xg _,Gr.refl b,fun j _ h=>by omega,by simp [ao,cC]⟩
theorem Cq(b:OZ a)(k:ia hq a)(l:hq.n<=a.n)(e:aH a 1 gC v xs)(m:xs.length<=1000)(o: ∀x∈xs,x<N)(hf:HoldP zB hq g post.toList N f):cj zB 109 [v,.func (.func g) #[] post] a (.bool (xs.any f)):=by
 have S:=Si b;have p:=e.fl;refine erA (n:=9) (rs:=[.tmp 4]) e109 ?_;simp only [BZ,seval];refine step_ret (indexI_ok b k l e m o hf) ?_;rintro r h ⟨i,z,rfl,j⟩;cases c:xs.any f with
 | true=>have d:=j.2 c;simp only [BZ,ab,d,seval];exact i| false=>
   have d: ¬0<=z:=fun h=>(by rw [j.1 h]at c;cases c);simp only [BZ,ab,d,seval];exact i
section
variable{hq:Hp}{γ:Gra}{nb mb bp k:Nat}{p:Value}{m:List Int}{c:Nat->Nat}
def beyB(γ:Gra)(c:Nat->Nat)(k a:Nat):Bool:=!decide (c (γ.arcs.getD a default).s=k)
theorem beyond_ok(e:OZ hq)(t:Good γ)(J:cI hq nb (ptrTo bp) γ)(x:jY hq mb p γ.nodes m c){v:Nat}(K:hq.load v 0 1=some [ptrTo bp])(z:hq.load w 0 1=some [p])(B:hq.load y 0 1=some [.int .i64 (k:Nat)]):HoldP zB hq 184 [ptrTo v,ptrTo w,ptrTo y] γ.arcs.length (beyB γ c k):=by
 intro h L g M a u;have S:=Si L;have C:γ.arcs[a]=γ.arcs.getD a default:=by simp [Xf,u]
 have N:γ.arcs.getD a default∈γ.arcs:=by rw [<-C];exact Xu u
 obtain⟨D,O,_⟩:=t.arcs _ N;refine erA (n:=24) (rs:=[.tmp 5]) e184 ?_;simp only [BZ,g.load e K,seval];refine step_ret (tM S.ok (J.keep e g) u) ?_;rintro R T ⟨g4,rfl⟩;replace S:=S.call g4;unfold beyB;rw [C];generalize γ.arcs.getD a default=A at D O;simp only [BZ,cR,seval];refine ag ay S ?_;clear S;intro h E S F;simp only [BZ,seval];refine au (stA S (i:=0) t81.2.1) ?_;clear S;rintro h ⟨S,P⟩;clear P;simp only [LC,ae,lay,Xo,Xp,seval]at S;have j:=g.grk M S.gr;obtain⟨b,U,rfl,r,s,_,_⟩:=(x.keep e j).at0;have G:=r.load1 (o:=0) rfl;have V:=x.len;obtain⟨d,o,H,l⟩:=s.ix (kd:=.i64) (aE .i64) (i:=A.s) (by omega);have Q:m[A.s]'(by omega)=(c A.s:Int):=by rw [<-x.val A.s D,Xf,Xj (by omega)];rfl
 rw [Q]at l;simp only [encI]at l;simp only [BZ,seval];refine av (aB rfl) (q:=0) (ps:=[]) (by kernel_rfl) ?_;by_cases I:c A.s=k
 . have f:(c A.s:Int)=(k:Int):=(by omega);simp only [BZ,cls,ab,j.load e z,j.load e B,G,H,l,f,S.ld (b:=E) (o:=0) m0 rfl,seval];exact⟨by rw [decide_eq_true I];rfl,S.gr⟩
 . have f: ¬(c A.s:Int)=(k:Int):=(by omega);simp only [BZ,cls,ab,j.load e z,j.load e B,G,H,l,f,S.ld (b:=E) (o:=0) m0 rfl,seval];exact⟨by rw [decide_eq_false I];rfl,S.gr⟩
def borB(γ:Gra)(c:Nat->Nat)(k v:Nat):Bool:=decide (c v=k)&&(outs γ.arcs Arc.t γ.arcs.length v).any (beyB γ c k)
theorem Ep(f:OZ hq)(j:Good γ)(D:cI hq nb (ptrTo bp) γ)(x:jY hq mb p γ.nodes m c){A E:Nat}(F:hq.load y 0 1=some [p])(G:hq.load z 0 1=some [.int .i64 (k:Nat)])(H:hq.load A 0 1=some [ptrTo bp])(l4:hq.load E 0 1=some [.func (.func 184) #[] #[ptrTo A,ptrTo y,ptrTo z]]):HoldP zB hq 187 [ptrTo y,ptrTo z,ptrTo A,ptrTo E] γ.nodes (borB γ c k):=by
 intro h l g I v J;have S:=Si l;obtain⟨b,vm,rfl,r,s,_,_⟩:=(x.keep f g).at0;have K:=r.load1 (o:=0) rfl;have hl:=x.len;obtain⟨d,o,L,w⟩:=s.ix (kd:=.i64) (aE .i64) (i:=v) (by omega);have ev:m[v]'(by omega)=(c v:Int):=by rw [<-x.val v J,Xf,Xj (by omega)];rfl
 rw [ev]at w;replace w:h.load d o 1=some [.int .i64 (c v:Nat)]:=w;have B:=g.load f F;have C:=g.load f G;have M:=g.load f H;have N:=g.load f l4;have O:=bU l B;have P:=bU l C;have Q:=bU l M;have R:=bU l N;have T:=r.lt l;have U:=bU l w;unfold borB;by_cases V:c v=k
 . have t:(c v:Int)=(k:Int):=(by omega);refine erA (n:=23) (rs:=[.tmp 6]) e187 ?_;simp only [BZ];refine av (aB rfl) (q:=0) (ps:=[(12,13)]) (by kernel_rfl) ?_;simp only [BZ,cls,B,C,M,K,L,w,t,seval];refine cF (C9 S.ok (D.keep f g) (by have:=j.many;omega) J) ?_;rintro vl h2 ⟨e,sl,_⟩;have W:=aI e O;have X:=aI e P;have Y:=aI e Q;have Z:=aI e R;have ub:=aI e T;have ud:=aI e U;replace S:=S.call e;simp only [BZ,cls,e.load N,seval];refine da (Cq S.ok (g.grk I e) (Xe I e.n) sl (by have:=j.many;have:=sk γ.arcs Arc.t γ.arcs.length v;omega) (fun a ha=>(uZ.1 ha).1) (post:=#[ptrTo A,ptrTo y,ptrTo z]) (beyond_ok f j D x H F G)) ?_;intro h3 u;have w1:=aI u (Xq O e.n);have w2:=aI u (Xq P e.n);have w3:=aI u (Xq Q e.n);have w4:=aI u (Xq R e.n);have wb:=aI u (Xq T e.n);have wd:=aI u (Xq U e.n);replace S:=S.call u;simp only [BZ,cls,ab,seval];refine⟨by simp only [aR,aZ,aM,bo,aP,ne_eq,not_false_eq_true,bj,bH,aQ,aO,bS,cq,az,Xl,ah,ct,cP,aJ W,aJ X,aJ Y,aJ Z,aJ ub,aJ ud,aG W,aG X,aG Y,aG Z,aG ub,aG ud,aJ w1,aJ w2,aJ w3,aJ w4,aJ wb,aJ wd,aG w1,aG w2,aG w3,aG w4,aG wb,aG wd,seval],?_⟩;exact⟨by rw [decide_eq_true V,Bool.true_and],S.gr⟩
 . have t: ¬(c v:Int)=(k:Int):=(by omega);refine erA (n:=23) (rs:=[.tmp 6]) e187 ?_;simp only [BZ];refine av (aB rfl) (q:=0) (ps:=[(12,13)]) (by kernel_rfl) ?_;simp only [BZ,cls,ab,B,C,K,L,w,t,seval];refine⟨by simp only [aR,aZ,aM,bo,aP,ne_eq,not_false_eq_true,bj,bH,aQ,aO,bS,cq,az,Xl,ah,ct,cP,AM,pairN,seval],?_⟩;exact⟨by rw [decide_eq_false V,Bool.false_and],S.gr⟩
end
theorem cnodes_ok(g:OZ a){f:Value}(i:Fl p)(j:Fl f):Ret zB 186 [p,f] a fun v h'=>Gr a h'/\ ∃b c,v=.func (.func 222) #[] #[ptrTo b,ptrTo c]/\a.n<=b/\a.n<=c/\h'.load b 0 1=some [p]/\h'.load c 0 1=some [f]:=by have S:=Si g;refine erA (n:=6) (rs:=[.tmp 4]) e186 ?_;simp only [BZ,seval];refine ag (dU (by assumption)) S ?_;clear S;intro h b S d;simp only [BZ,if_false,seval];refine ag (dU (by assumption)) S ?_;clear S;intro h c S e;simp only [BZ,ab,seval];exact⟨S.gr,b,c,rfl,d,e,S.ld m1 rfl,S.ld m0 rfl⟩
theorem cnodes_it{d:Hp}(u:OZ hq)(k:OZ d)(E:ia hq d)(y:hq.n<=d.n){L:Nat}{m:List Int}{c:Nat->Nat}(x:jY hq L p N m c)(V:N<=1000){l q:Nat}(hf:HoldP zB hq g post.toList N f)(M:d.load l 0 1=some [p])(O:d.load q 0 1=some [.func (.func g) #[] post]):vb zB 222 [] [ptrTo l,ptrTo q] d (fun c=>c=l\/c=q\/c<hq.n) (((zM N).filter f).map fun(v:Nat)=>[.int .i64 (v:Nat)]):=by
 intro P J Z Q Y h F s e;have G:=s.load k M (.inl rfl);obtain⟨b,W,rfl,r,H,_,_⟩:=(x.keep u (s.keep E y (fun c z=>.inr (.inr z)))).at0;have I:=r.load1 (o:=0) rfl;have X:=x.len;have A:(m.length:Int)=(N:Int):=by omega
 refine enA (n:=25) (rs:=[]) e222 ?_;simp only [BZ,G,I,H.lenq,A,seval];refine aD (fun(i:Nat) j h=>i<=N/\ ∃F,ItS d (fun c=>c=l\/c=q\/c<hq.n) h F/\J ((zM i).filter f).length h F/\j 0=.func (.yield P) #[] #[]/\j 1=ptrTo l/\j 2=ptrTo q/\j 11=.int .i64 (N:Nat)/\j 12=.int .i64 i) (fun i=>N-i) ?_ 0 _ _ ?_
 . clear G s e F r H I h;intro i K j h ⟨hi,F,s,e,r0,r1,r2,r11,r12⟩;have w:am .i64 ((i:Int)+1)=((i+1:Nat):Int):=(by rw [wrap64]<;>omega);by_cases hlt:i<N
   . have R:=s.load k O (.inr (.inl rfl));simp only [BZ,r2,r11,r12,aq,hlt,R,seval];refine ar (hf _ s.ok (s.keep E y (fun c z=>.inr (.inr z))) (Xe y s.n) i hlt) ?_;intro h2 t;cases B:f i with
     | true=>
       have S:(((zM N).filter f).map fun(v:Nat)=>[Value.int .i64 (v:Nat)])[((zM i).filter f).length]? =some [.int .i64 (i:Nat)]:=(by rw [XD,ze B _ hlt];rfl);have C:((zM (i+1)).filter f).length=((zM i).filter f).length+1:=(by rw [oF,if_pos B];simp);simp only [BZ,r0,seval];refine iE Y (s.gr t) (Y.gr _ _ _ _ e t) (i:=((zM i).filter f).length) S ?_ ?_ ?_
       . intro D T a U _ _;simp only [BZ,r12,w,seval];exact K (i+1) _ _ (by omega) ⟨by omega,T,U,by rw [C];exact a,by simp [ao,r0,r1,ah,r2,r11]⟩
       . intro D a _;simp only [BZ,seval];exact iP rfl ⟨rfl,.inr (.inl ⟨_,rfl,a⟩)⟩
       . intro v D a;exact absurd a (Q v D)
     | false=>have C:(zM (i+1)).filter f=(zM i).filter f:=(by rw [oF,if_neg (by rw [B];decide)];simp);simp only [BZ,r12,w,seval];exact K (i+1) _ _ (by omega) ⟨by omega,F,s.gr t,by rw [C];exact Y.gr _ _ _ _ e t,by simp [ao,r0,r1,ah,r2,r11]⟩
   . simp only [BZ,r11,r12,aq,hlt,seval];have:i=N:=(by omega);subst this;exact dG (cy ⟨rfl,_,rfl,rfl,.inl ⟨_,F,rfl,by simpa using e⟩⟩)
 . exact⟨Xg _,F,s,e,by simp [ao,cC,ah]⟩
theorem border_ok(A:OZ a){j:Gra}{T U F:Nat}{m:List Int}{c:Nat->Nat}(l:Good j)(G:cI a T (ptrTo F) j)(x:jY a U p j.nodes m c):Ret zB 125 [p,ptrTo F,.int .i64 (k:Nat)] a fun r h'=>Gr a h'/\aH h' 1 gC r ((zM j.nodes).filter (borB j c k))/\ ∀c,aA r c->a.n<=c:=by
 have S:=Si A;have fp:Fl p:=by obtain⟨b,_,rfl,_⟩:=x.at0;exact dB
 obtain⟨bc,V,rfl,r,s,_,_⟩:=x.at0;have W:=r.load1 (o:=0) rfl;have X:=x.len;have Y:=l.n1;have n2:=l.n2;have B:(m.length:Int)=(j.nodes:Int):=by omega
 obtain⟨H,ov,sv,cv,Z⟩: ∃d o s c,V=.slice (some ⟨d,o,s⟩) m.length c:=by
  rcases s with⟨_,e⟩|⟨d,o,s,c,e,_⟩
  . subst e;simp at X;omega
  . exact⟨d,o,s,c,e⟩
 subst Z;have C:H<a.n:=s.lt A (b:=H) rfl;refine erA (n:=29) (rs:=[.tmp 6]) e125 ?_;simp only [BZ,seval];refine ag (dU (by exact dB)) S ?_;clear S;intro h t S I;simp only [BZ,if_false,seval];refine ag (dU (by exact dB)) S ?_;clear S;intro h w S J;simp only [BZ,if_false,seval];refine ag (dU (by exact cE)) S ?_;clear S;intro h K S L;have z3:=(S.row (b:=t) m2).lt S.ok;have z4:=(S.row (b:=w) m1).lt S.ok;have zc:=Xq (r.lt A) S.gr.n;have zd:=Xq C S.gr.n;have D:=S.gr.load W;have s':=s.gr S.gr;simp only [BZ];refine av (aB rfl) (q:=0) (ps:=[(8,13),(8,12),(8,9)]) (by kernel_rfl) ?_;simp only [BZ,cls,S.ld (b:=t) (o:=0) m2 rfl,S.ld (b:=w) (o:=0) m1 rfl,seval];refine da (dm S.ok (G.gr S.gr)) ?_;intro h1 u;have M:=aI u z3;have N:=aI u z4;have O:=aI u zc;have P:=aI u zd;have y:=u.load D;replace S:=S.call u;simp only [BZ,cls,y,s'.lenq,B,S.ld (b:=t) (o:=0) m2 rfl,S.ld (b:=w) (o:=0) m1 rfl,seval];refine⟨by simp only [aR,aZ,aM,bo,aP,ne_eq,not_false_eq_true,bj,bH,aQ,aO,bS,cq,az,Xl,ah,sI,aJ M,aJ N,aJ O,aG M,aG N,aG O,aJ P,aG P,seval],?_⟩;refine ag ay S ?_;clear S;intro h Q S R;simp only [BZ,seval];refine au (aw S (i:=0) rfl t188.2.1 jg (Xb (lbt rfl)) ono) ?_;clear S;rintro h2 ⟨S,_⟩;simp only [LC]at S;simp only [BZ,S.ld (b:=t) (o:=0) m3 rfl,seval];have E:=S.gr;have z:=S.ok;have l3:=S.ld (b:=t) (o:=0) m3 rfl;have l4:=S.ld (b:=w) (o:=0) m2 rfl;have l5:=S.ld (b:=K) (o:=0) m1 rfl;have l7:=S.ld (b:=Q) (o:=0) m0 rfl;have hf:=Ep z l (G.gr E) (x.gr E) l3 l5 l4 l7;refine step_ret (cnodes_ok S.ok dB jg) ?_;rintro v h4 ⟨g,b1,b2,rfl,Y,aa,y1,y2⟩;have it:=cnodes_it z g.ok g.keep g.n (x.gr E) (by omega) (g:=187) (post:=#[ptrTo t,ptrTo K,ptrTo w,ptrTo Q]) hf y1 y2;replace S:=S.call g;simp only [BZ,seval];refine step_ret (DD S.ok (g:=222) (post:=#[ptrTo b1,ptrTo b2]) (iter_w it) (fun _ h=>h.elim) (by have:=Af (n:=j.nodes) (f:=borB j c k);omega)) ?_;rintro r h5 ⟨f5,G5,d5⟩;have g5:=f5.gr;have k5:=S.fr.n;replace S:=S.call g5;simp only [BZ,ab,seval];exact⟨S.gr,G5.sl rfl jt (by decide),fun c hc=>by have:=d5 c hc;omega⟩
theorem Fu(e:OZ a){c:Gra}{f:Nat}(g:cI a f (ptrTo d) c)(k:b<c.nodes):cj zB 223 [ptrTo d,.int .i64 (b:Nat)] a (.bool true):=by
 have S:=Si e;have h:(0:Int)<=(b:Int):=by omega
 have i:(b:Int)<(c.nodes:Int):=by omega
 refine erA (n:=17) (rs:=[.tmp 4]) e223 ?_;simp only [BZ,h,seval];refine ar (dm S.ok g) ?_;intro l j;simp only [BZ,ab,i,seval];exact j
noncomputable def lZ(c:Gra)(b a:Nat):Bool:=decide (dOf (seen c.arcs Arc.t Arc.s) b (c.arcs.getD a default).s<FAR/\dOf (seen c.arcs Arc.t Arc.s) b (c.arcs.getD a default).t<FAR/\dOf (seen c.arcs Arc.t Arc.s) b (c.arcs.getD a default).s=(c.arcs.getD a default).w+dOf (seen c.arcs Arc.t Arc.s) b (c.arcs.getD a default).t)
def HoldA(E:Env)(hq:Hp)(x:Nat)(g:FuncId)(post:List Value)(N:Nat)(f:Nat->Bool):Prop:= ∀h,OZ h->(∀b,b<hq.n->b≠x->h.get b=hq.get b)->hq.n<=h.n-> ∀v,v<N->cj E g ([.int .i64 (v:Nat)]++post) h (.bool (f v))
theorem oH{o:Nat}{l:List Value}(e:h.load b o n=some l)(g:h'.get b=h.get b):h'.load b o n=some l:=by unfold Hp.load at e⊢;rw [g];exact e
theorem sl_get{a:Type}{enc:a->List Value}{xs:List a}(s:aH h k enc v xs)(g: ∀c,aA v c->h'.get c=h.get c):aH h' k enc v xs:=by
 rcases s with s|⟨b,o,s,c,d,e,f⟩
 . exact .inl s
 . exact .inr ⟨b,o,s,c,d,e,oH f (g b (by rw [d];rfl))⟩
theorem tells1_ok{f:Hp}(D:OZ f)(g:OZ hq)(X:ia f hq)(M:f.n<=hq.n)(hx:f.n<=x){e:Gra}(E:Good e){Y p:Nat}(Z:cI f Y (ptrTo N) e)(B:p≠x)(x5:z≠x)(O: ∀v,IsD (seen e.arcs Arc.t Arc.s) b v (dOf (seen e.arcs Arc.t Arc.s) b v)){C vA vO:Value}(P:hq.load p 0 1=some [ptrTo N])(Q:hq.load z 0 1=some [C])(R:aH hq 1 gC C ((zM e.nodes).map (dOf (seen e.arcs Arc.t Arc.s) b)))(xD: ∀c,aA C c->c≠x):HoldA zB hq x 234 [ptrTo p,ptrTo z] e.arcs.length (lZ e b):=by
 intro h ok k nq a F;have kN:ia f h:=fun c r=>(k c (Xq r M) (by omega)).trans (X c r);have nN:f.n<=h.n:=Xe M nq;have e2:=oH P (k p (bU g P) B);have e5:=oH Q (k z (bU g Q) x5);have s:aH h 1 gC C _:=sl_get R (fun c r=>k c (R.lt g r) (xD c r));have S:=Si ok;have T:e.arcs[a]=e.arcs.getD a default:=by simp [Xf,F]
 have hm:e.arcs.getD a default∈e.arcs:=by rw [<-T];exact Xu F
 obtain⟨hs,ht,hw⟩:=E.arcs _ hm;unfold lZ;have G:=O (e.arcs.getD a default).s;have H:=O (e.arcs.getD a default).t;generalize hd:dOf (seen e.arcs Arc.t Arc.s) b=d at G H s;refine erA (n:=35) (rs:=[.tmp 4]) e234 ?_;simp only [BZ,e2,seval];refine step_ret (tM S.ok (Z.keep D kN) F) ?_;rintro rv h4 ⟨g4,rfl⟩;replace S:=S.call g4;rw [T];generalize e.arcs.getD a default=A at hs ht hw G H;simp only [BZ,cR,seval];refine ag ay S ?_;clear S;intro h t S U;simp only [BZ,seval];refine au (stA S (i:=0) t81.2.1) ?_;clear S;rintro h ⟨S,mo⟩;clear mo;simp only [LC,ae,lay,Xo,Xp,seval]at S;have u:=s.gr S.gr;have lD:((zM e.nodes).map d).length=e.nodes:=by simp
 obtain⟨c1,o1,x1,I⟩:=u.ix (kd:=.i64) jt (i:=A.t) (by omega);obtain⟨c2,o2,B,V⟩:=u.ix (kd:=.i64) jt (i:=A.s) (by omega);simp only [YJ,List.getElem_range,gC]at I V;have J:=S.gr.load e5;have z6:=(S.row (b:=t) m0).lt S.ok;have z5:=bU S.ok J;have zc:=bU S.ok I;simp only [BZ,seval];refine av (aB rfl) (q:=0) (ps:=[]) (by kernel_rfl) ?_;simp only [BZ,cls,J,x1,I,S.ld (b:=t) (o:=1) m0 rfl,S.ld (b:=t) (o:=2) m0 rfl,seval];refine da (add_ok S.ok) ?_;intro h7 m;have v6:=aI m z6;have v5:=aI m z5;have vc:=aI m zc;replace S:=S.call m;simp only [BZ,cls,seval];have aa:=FAR_eq;have b1:=G.le;have p:=H.le;have K:wy (wy (wy (d A.t:Nat))+wy (A.w:Nat))=(if d A.t+A.w<FAR then((d A.t+A.w:Nat):Int)else(FAR:Int)):=by
  unfold wy
  repeat' split
  all_goals omega
 rw [K];have w:=m.load J;have y:=m.load V;by_cases hf:d A.t+A.w<FAR
 . rw [if_pos hf];have w1:wy ((d A.t+A.w:Nat):Int)<72057594037927936:=(by unfold wy;omega);have L:decide (wy ((d A.t+A.w:Nat):Int)<72057594037927936)=true:=decide_eq_true w1;refine ar (Az S.ok) ?_;intro h8 j;replace S:=S.call j;rw [L];by_cases W:d A.s=A.w+d A.t
   . have l:((d A.t+A.w:Nat):Int)=(d A.s:Int):=(by omega);simp only [BZ,ab,j.load w,B,j.load y,l,S.ld (b:=t) (o:=0) m0 rfl,seval];exact⟨by rw [decide_eq_true ⟨by omega,by omega,W⟩],S.gr⟩
   . have l: ¬((d A.t+A.w:Nat):Int)=(d A.s:Int):=(by omega);simp only [BZ,ab,j.load w,B,j.load y,l,S.ld (b:=t) (o:=0) m0 rfl,seval];exact⟨by rw [decide_eq_false (fun h=>W h.2.2)],S.gr⟩
 . rw [if_neg hf];have L:decide (wy (FAR:Int)<72057594037927936)=false:=decide_eq_false (by unfold wy;omega);refine ar (Az S.ok) ?_;intro h8 j;replace S:=S.call j;rw [L];simp only [BZ,ab,seval];exact⟨by rw [decide_eq_false (fun h=>by omega)],S.gr⟩
theorem tells_ok{d:Hp}(p:OZ a)(E:OZ d)(u:Gr a d)(F:a.n<=x)(G:x<d.n){f:Gra}(k:Good f)(y:cI a H (ptrTo w) f)(I:b<f.nodes):Ret zB 226 [ptrTo w,.int .i64 (b:Nat)] d fun r h'=>Gr d h'/\ ∃g j,r=.func (.func 234) #[] #[ptrTo g,ptrTo j]/\d.n<=g/\d.n<=j/\HoldA zB h' x 234 [ptrTo g,ptrTo j] f.arcs.length (lZ f b):=by
 have S:=Si E;refine erA (n:=10) (rs:=[.tmp 4]) e226 ?_;simp only [BZ,seval];refine ag (bK (by intro x e;cases e)) S ?_;clear S;intro h g S l;simp only [ae]at S;simp only [BZ,S.ld (b:=g) (o:=0) m0 rfl,seval];refine step_ret (u5 S.ok k (y.gr (u.trans S.gr)) I) ?_;rintro r U ⟨J,V,vA,vO,D,W,O,rfl,q,K,L,_,z,M,_⟩;have X:=S.fr.n;replace S:=S.call J;have N:=q.fl;have P:=K.fl;have Q:=L.fl;have A:D=dOf (seen f.arcs Arc.t Arc.s) b:=funext fun v=>((vW (z v)).1).symm;have s: ∀v,IsD (seen f.arcs Arc.t Arc.s) b v (dOf (seen f.arcs Arc.t Arc.s) b v):=fun v=>by rw [<-A];exact z v
 rw [A]at q;simp only [BZ];have R:=S.row (b:=g) m0;have Y:=S.fr.n;have m:=S.gr;have t:=S.ok;clear S;have S:=Si t;refine ag ay S ?_;clear S;intro h j S B;simp only [BZ,seval];refine au (S.store (i:=0) rfl t192.2.1 (by intro x e;cases e) rfl (by simp only [ae,X4,Yd,N.2.1,P.2.1,Q.2.1,Xl]) (lbt rfl) ono) ?_;clear S;rintro Z ⟨S,_⟩;simp only [LC,ae,lay,Xo,Xp,seval]at S;simp only [BZ,ab,seval];refine⟨m.trans S.gr,g,j,rfl,l,by omega,?_⟩;have C:=u.trans (m.trans S.gr);exact tells1_ok p S.ok C.keep C.n F k y (by omega) (by omega) s (vA:=vA) (vO:=vO) ((R.gr S.gr).load1 (o:=0) rfl) (S.ld (b:=j) (o:=0) m0 rfl) (q.gr S.gr) (fun c T e=>by have:=M c (.inl T);omega)
theorem marked_ok(g:OZ a){f:Value}(i:Fl f):Ret zB 225 [.int .i64 (n:Nat),f] a fun v h'=>Gr a h'/\ ∃b c,v=.func (.func 233) #[] #[ptrTo b,ptrTo c]/\a.n<=b/\a.n<=c/\h'.load b 0 1=some [.int .i64 (n:Nat)]/\h'.load c 0 1=some [f]:=by have S:=Si g;refine erA (n:=6) (rs:=[.tmp 4]) e225 ?_;simp only [BZ,seval];refine ag (dU (by exact cE)) S ?_;clear S;intro h b S d;simp only [BZ,if_false,seval];refine ag (dU (by assumption)) S ?_;clear S;intro h c S e;simp only [BZ,ab,seval];exact⟨S.gr,b,c,rfl,d,e,S.ld m1 rfl,S.ld m0 rfl⟩
theorem marked_it{b:Hp}(A:OZ hq)(j:OZ b)(B:ia hq b)(u:hq.n<=b.n)(L:N<=1000){l:Nat}(hf:HoldA zB hq x g post.toList N f)(C:b.load k 0 1=some [.int .i64 (N:Nat)])(D:b.load l 0 1=some [.func (.func g) #[] post]):vb zB 233 [] [ptrTo k,ptrTo l] b (fun c=>c=k\/c=l\/(c<hq.n/\c≠x)) (((zM N).filter f).map fun(v:Nat)=>[.int .i64 (v:Nat)]):=by
 intro E J Z G Y h F s d;have y:=s.load j C (.inl rfl);refine enA (n:=19) (rs:=[]) e233 ?_;simp only [BZ,y,seval];refine aD (fun(i:Nat) e h=>i<=N/\ ∃F,ItS b (fun c=>c=k\/c=l\/(c<hq.n/\c≠x)) h F/\J ((zM i).filter f).length h F/\e 0=.func (.yield E) #[] #[]/\e 1=ptrTo k/\e 2=ptrTo l/\e 5=.int .i64 (N:Nat)/\e 6=.int .i64 i) (fun i=>N-i) ?_ 0 _ _ ?_
 . clear y s d F h;intro i z e h ⟨hi,F,s,d,r0,r1,r2,r5,r6⟩;have w:am .i64 ((i:Int)+1)=((i+1:Nat):Int):=(by rw [wrap64]<;>omega);by_cases hlt:i<N
   . have H:=s.load j D (.inr (.inl rfl));simp only [BZ,r2,r5,r6,aq,hlt,H,seval];refine ar (hf _ s.ok (fun c o p=>(s.data c (Xq o u) (.inr (.inr ⟨o,p⟩))).trans (B c o)) (Xe u s.n) i hlt) ?_;intro M m;cases q:f i with
     | true=>
       have p:(((zM N).filter f).map fun(v:Nat)=>[Value.int .i64 (v:Nat)])[((zM i).filter f).length]? =some [.int .i64 (i:Nat)]:=(by rw [XD,ze q _ hlt];rfl);have r:((zM (i+1)).filter f).length=((zM i).filter f).length+1:=(by rw [oF,if_pos q];simp);simp only [BZ,r0,seval];refine iE Y (s.gr m) (Y.gr _ _ _ _ d m) (i:=((zM i).filter f).length) p ?_ ?_ ?_
       . intro t I a K _ _;simp only [BZ,r6,w,seval];exact z (i+1) _ _ (by omega) ⟨by omega,I,K,by rw [r];exact a,by simp [ao,r0,r1,ah,r2,r5]⟩
       . intro t a _;simp only [BZ,seval];exact iP rfl ⟨rfl,.inr (.inl ⟨_,rfl,a⟩)⟩
       . intro v t a;exact absurd a (G v t)
     | false=>have r:(zM (i+1)).filter f=(zM i).filter f:=(by rw [oF,if_neg (by rw [q];decide)];simp);simp only [BZ,r6,w,seval];exact z (i+1) _ _ (by omega) ⟨by omega,F,s.gr m,by rw [r];exact Y.gr _ _ _ _ d m,by simp [ao,r0,r1,ah,r2,r5]⟩
   . simp only [BZ,r5,r6,aq,hlt,seval];have:i=N:=(by omega);subst this;exact dG (cy ⟨rfl,_,rfl,rfl,.inl ⟨_,F,rfl,by simpa using d⟩⟩)
 . exact⟨Xg _,F,s,d,by simp [ao,cC,ah]⟩
def ij(n:Nat)(f:Nat->Bool):List Value:=(zM n).map fun j=>.bool (f j)
theorem bolC_len:(ij n f).length=n:=by simp [ij]
theorem bolC_at(h:j<n):(ij n f)[j]? =some (.bool (f j)):=qa (F:=fun j=>Value.bool (f j)) h
theorem bolC_set:(ij n f).set j (.bool true)=ij n (fun u=>decide (u=j)||f u):=by have:=mV (N:=n) (k:=j) (F:=fun j=>Value.bool (f j)) (F':=fun u=>Value.bool (decide (u=j)||f u)) (fun i _ a=>by simp [a]);unfold ij;rw [<-this];simp
theorem q9{g:Nat->Bool}(h: ∀j,j<n->f j=g j):ij n f=ij n g:=by unfold ij;refine XJ fun j a=>?_;rw [h j (List.mem_range.1 a)]
theorem putB_ok{l:Hp}(E:OZ l)(R:Row l d (ij n f) 1)(M:vb zB g [] post.toList l D (xs.map fun(v:Nat)=>[.int .i64 (v:Nat)]))(G: ¬D d)(B: ∀x∈xs,x<n)(hl:xs.length<=1000):Ret zB 224 [.slice (some ⟨d,0,none⟩) n n,.func (.func g) #[] post,.bool true] l fun r h'=>Mo (· =d) l h'/\r=.slice (some ⟨d,0,none⟩) n n/\Row h' d (ij n (fun u=>decide (u∈xs)||f u)) 1:=by
 have S:=St.init1 E (o:=.row (ij n f) 1) R;have zl:=R.lt E;refine erA (n:=15) (rs:=[.tmp 6]) e224 ?_;simp only [BZ,seval];refine ag (dU (by exact bW)) S ?_;clear S;intro h p S H;simp only [BZ,if_false,seval];refine ag (dU (by exact qi)) S ?_;clear S;intro h w S I;simp only [BZ,if_false,seval];have N:ij n f=ij n (fun u=>decide (u∈xs.take 0)||f u):=q9 fun j _=>by simp
 refine kH S (g:=g) (a:=#[]) (b:=post) (by simp [bS,ao,ah]) rfl rfl ?_;intro J A z q O P g2;obtain⟨X,K,q⟩: ∃X:iI,X=_/\St (· =d) l J [(z,.loop X),(A,.dfr),(w,.row [.bool true] 1),(p,.row [.slice (some ⟨d,0,none⟩) n n] 1),(d,.row (ij n f) 1)] []:=⟨_,rfl,q⟩;have Q:Yld zB z (fun k h' F=>St (· =d) l h' [(z,.loop X),(A,.dfr),(w,.row [.bool true] 1),(p,.row [.slice (some ⟨d,0,none⟩) n n] 1),(d,.row (ij n (fun u=>decide (u∈xs.take k)||f u)) 1)] []/\k<=xs.length/\F=[z,A,w,p,d]) (fun _ _=>False) (xs.map fun(v:Nat)=>[.int .i64 (v:Nat)]):=by
  refine⟨?_,?_,fun _ _ h=>h.elim,?_⟩
  . rintro i h F ⟨S,_,rfl⟩;exact⟨S.ok,fun b m=>S.key_lt (by simpa [keys]using m)⟩
  . rintro i h F h' ⟨S,a,rfl⟩ V;exact⟨S.call V,a,rfl⟩
  . rintro i x hR F C ⟨S,a,rfl⟩;have s:i<xs.length:=(by have:=(List.getElem?_eq_some_iff.1 C).1;simpa using this);rw [XD,Xj s]at C;cases C;have t:=B _ (Xu s);have W:ij n (fun u=>decide (u∈xs.take (i+1))||f u)=(ij n (fun u=>decide (u∈xs.take i)||f u)).set xs[i] (.bool true):=(by rw [bolC_set];refine q9 fun j _=>?_;rw [Xa s];simp only [Yq,XM];by_cases Y:j=xs[i]<;>by_cases Z:j∈xs.take i<;>simp [Y,Z]);rw [W];generalize xs[i]=x at t;subst K;refine kK (S.get m0) (by rw [e224];rfl) rfl ?_;have S0:=S;replace S:=S.base;simp only [BZ,seval];refine jP S (i:=0) rfl rfl rfl rfl rfl ?_;clear S;intro h S;simp only [LC]at S;simp only [BZ,t,S.ld (b:=p) (o:=0) m3 rfl,S.ld (b:=w) (o:=0) m2 rfl,seval];refine au (aw S (i:=4) rfl Tryz.t4.2.2.1 qi (by rw [bolC_len];exact t) ono) ?_;clear S;rintro h ⟨S,_⟩;simp only [LC]at S;simp only [BZ];refine gR S (i:=0) rfl ?_;clear S;intro h S;simp only [LC]at S;refine .inl ⟨rfl,_,⟨S0.rebase S,by omega,rfl⟩,?_,fun c hc=>.inl hc⟩;have:=S.fr;simp only [keys,Yg,List.map_nil,List.filterMap_nil,XS]at this;exact this
 refine d7 (M z _ _ (fun _ _ h=>h) Q J [z,A,w,p,d] ?_ ⟨by rw [<-N];exact q,Xg _,rfl⟩) fun o rc h' y=>qR y ?_
 . have kn:=S.fr.n;refine⟨q.ok,q.fr.n,fun b m hd=>q.fr.get b m (fun e=>G (e▸hd)),fun b m h=>?_,fun b m=>q.key_lt (by simpa [keys]using m)⟩;simp only [X3,XY,or_false]at m;rcases m with rfl|rfl|rfl|rfl|rfl
   . omega
   . omega
   . omega
   . omega
   . exact G h.2
 . rintro F ⟨T,_,rfl⟩;rw [Xv,XE]at T;subst K;refine⟨_,T.get m0,X7,?_⟩;replace T:=T.dead;have S:=T;show Run _ _ _ _ _ _ _ _;simp only [BZ,S.ld (b:=p) (o:=0) m2 rfl,seval];refine ig (ib [A] _ (L:=[(w,_),(p,_),(d,_)]) T.base fun h4 S4=>?_);refine⟨rfl,(dk (by decide)).2 (bV.2 ?_)⟩;have U:=T.rebase S4;exact⟨U.fr,rfl,U.row m2⟩
theorem anyT_ok{k:Hp}(L:OZ k){d:Gra}(m:Good d){M:Nat}{z:Value}(A:cI k M (ptrTo y) d)(G:b<d.nodes)(B:aH k 1 gC z xs)(p:xs=[b]):Ret zB 188 [ptrTo y,z] k fun r h'=>Gr k h'/\ ∃f,r=.slice (some ⟨f,0,none⟩) d.arcs.length d.arcs.length/\Row h' f (ij d.arcs.length (lZ d b)) 1/\k.n<=f:=by
 have S:=Si L;have H:=m.many;have fL:=B.fl;have hl:xs.length=1:=by rw [p];rfl
 refine erA (n:=32) (rs:=[.tmp 4]) e188 ?_;simp only [BZ,seval];refine ar (pd S.ok A) ?_;intro h1 N;replace S:=S.call N;simp only [BZ,seval];have C:=S.gr;have q:=S.ok;clear S;have S:=Si q;rename Hp=>hA;refine ag (kY (by exact t202.1) (by exact e4E) (by omega) (by omega)) S ?_;clear S;intro h f S s;have O:bA [Value.bool false] d.arcs.length=ij d.arcs.length (fun a=>decide (0=1)&&lZ d b a):=by rw [mE];unfold ij;simp [YO]
 rw [Xw,O]at S;simp only [BZ,Xw,B.lenq,seval];refine aD (fun(i:Nat) l h=>i<=1/\St NoM hA h [(f,.row (ij d.arcs.length (fun a=>decide (i=1)&&lZ d b a)) 1)] []/\l 0=ptrTo y/\l 5=.slice (some ⟨f,0,none⟩) d.arcs.length d.arcs.length/\l 13=z/\l 14=.int .i64 (xs.length:Nat)/\l 15=.int .i64 i) (fun i=>1-i) ?_ 0 _ _ ?_
 . clear S;intro i P l h ⟨hi,S,r0,r5,r13,r14,r15⟩;have w:am .i64 ((i:Int)+1)=((i+1:Nat):Int):=(by rw [wrap64]<;>omega);have D:=C.trans S.gr;by_cases hlt:i<xs.length
   . have I:i=0:=(by omega);obtain⟨c,o,Q,t⟩:=(B.gr D).ix (kd:=.i64) jt hlt;have R:xs[i]=b:=(by subst p;subst I;rfl);rw [R]at t;replace t:h.load c o 1=some [.int .i64 (b:Nat)]:=t;simp only [BZ,r0,r13,r14,r15,aq,hlt,Q,t,seval];refine ar (Fu S.ok (A.gr D) G) ?_;intro h2 T;replace S:=S.call T;have hS:=S.gr;have E:=(S.row (b:=f) m0).lt S.ok;simp only [BZ,r0,r5,seval];refine step_ret (tells_ok q S.ok S.gr (x:=f) s E m (A.gr C) G) ?_;rintro v h3 ⟨J,U,V,rfl,n2,n5,hf⟩;replace S:=S.call J;have F:=S.ok;simp only [BZ,seval];refine step_ret (marked_ok S.ok (n:=d.arcs.length) jg) ?_;rintro v h4 ⟨g4,W,X,rfl,n1,n3,Y,Z⟩;have it:=marked_it F g4.ok g4.keep g4.n (x:=f) (by omega) (g:=234) (post:=#[ptrTo U,ptrTo V]) hf Y Z;have kg:=J.n;replace S:=S.call g4;simp only [BZ,seval];refine step_ret (putB_ok S.ok (S.row (b:=f) m0) (g:=233) (post:=#[ptrTo W,ptrTo X]) it (fun h=>?_) (fun x hx=>List.mem_range.1 (List.mem_filter.1 hx).1) (Xe Af (by omega))) ?_
     . rcases h with h|h|h
       . omega
       . omega
       . exact h.2 rfl
     . rintro v h5 ⟨f5,rfl,R5⟩;have K:=S.call1 (i:=0) (o':=.row _ 1) rfl f5 R5;simp only [Xt]at K;simp only [BZ,r15,w,seval];refine P (i+1) _ _ (by omega) ⟨by omega,?_,by simp [ao,r0,ah,r13,r14]⟩;have e:ij d.arcs.length (fun a=>decide (i+1=1)&&lZ d b a)=ij d.arcs.length (fun u=>decide (u∈(zM d.arcs.length).filter (lZ d b))||(decide (i=1)&&lZ d b u)):=q9 fun j hj=>(by subst I;simp [List.mem_filter,hj]);rw [e];exact K
   . have i1:i=1:=(by omega);simp only [BZ,ab,r5,r14,r15,aq,hlt,seval];refine⟨D,f,rfl,?_,by have:=C.n;omega⟩;have e:ij d.arcs.length (lZ d b)=ij d.arcs.length (fun a=>decide (i=1)&&lZ d b a):=q9 fun j _=>(by rw [decide_eq_true i1,Bool.true_and]);rw [e];exact S.row m0
 . exact⟨Xg _,S,by simp [ao,cC,ah]⟩
theorem arcsT_ok{c:Hp}(j:OZ c){a:Gra}(e:Good a){g:Nat}(l:cI c k (ptrTo g) a)(m:b<a.nodes):Ret zB 126 [ptrTo g,.int .i64 (b:Nat)] c fun r h'=>Gr c h'/\ ∃d,r=.slice (some ⟨d,0,none⟩) a.arcs.length a.arcs.length/\Row h' d (ij a.arcs.length (lZ a b)) 1/\c.n<=d:=by
 have S:=Si j;refine erA (n:=9) (rs:=[.tmp 4]) e126 ?_;simp only [BZ,seval];refine ag (bD (by exact t38.1) (by exact Yn) (by decide) (by rfl)) S ?_;clear S;intro h f S i;simp only [LC,bA,bN,ae,Xs,Xd,Xr,Xy,seval]at S;simp only [BZ,seval];have p:aH h 1 gC (.slice (some ⟨f,0,none⟩) 1 1) [b]:=.inr ⟨f,0,none,1,rfl,XB _,S.lds (b:=f) (o:=0) (n:=1*1) m0 (lbt rfl)⟩;have s:=S.fr.n;refine step_ret (anyT_ok S.ok e (l.gr S.gr) m p rfl) ?_;rintro r t ⟨q,d,rfl,R,u⟩;replace S:=S.call q;simp only [BZ,ab,seval];exact⟨S.gr,d,rfl,R,by omega⟩
def Own(B:Nat->Prop)(a h:Hp)(F:List Nat):Prop:=a.n<=h.n/\ ∀b,B b->b<a.n/\b∉F/\h.get b=a.get b
theorem Own.gr{B:Nat->Prop}{c:Hp}(o:Own B c h F)(g:Gr h h'):Own B c h' F:=
 ⟨Xe o.1 g.n,fun b a=>⟨(o.2 b a).1,(o.2 b a).2.1,(g.get b (Xq (o.2 b a).1 o.1)).trans (o.2 b a).2.2⟩⟩
theorem Own.mo{B:Nat->Prop}{F':List Nat}(o:Own B a h F)(m:Mo (· ∈F) h h')(e: ∀b∈F',b∈F\/h.n<=b):Own B a h' F':=
 ⟨Xe o.1 m.n,fun b f=>by
  obtain⟨c,d,g⟩:=o.2 b f;have hlt:=Xq c o.1;exact⟨c,fun i=>(e b i).elim d (fun h=>by omega),(m.get b hlt d).trans g⟩⟩
section
variable{γ:Gra}{nb mb bp k:Nat}{p:Value}{m:List Int}{c:Nat->Nat}
theorem won_ok{d j:Hp}(u:OZ d){L:Nat}{Z:Out->Hp->Prop}{xs:List (List Value)}(x:Good γ)(O: ∀v h,¬Z (.pan v) h)(Y:Yld zB L J Z xs){B:Nat->Prop}(z:B b)(P:j.load b 0 1=some [.func (.yield L) #[] #[]])(Q:D y)(e3:d.load y 0 1=some [ptrTo bp])(l: ∀h F,ItS d D h F->cI h nb (ptrTo bp) γ)(A: ∀h F,ItS d D h F->Own B j h F-> ∀a,a<γ.arcs.length->cj zB g ([.int .i64 (a:Nat)]++post.toList) h (.bool (f a))){q:Nat}(R: ∀a,a<γ.arcs.length->f a=true->xs[q+((zM a).filter f).length]? =some [.int .i64 (a:Nat)])(s:ItS d D h F)(o:Own B j h F)(r:J q h F):Ret zB 122 [.func (.func g) #[] post,ptrTo y,ptrTo b] h fun v h'=>(v=.bool true/\ ∃F',ItS d D h' F'/\Own B j h' F'/\J (q+((zM γ.arcs.length).filter f).length) h' F')\/(v=.bool false/\Z (.ret (.bool false)) h'):=by
 have M:=x.many;have S:=s.load u e3 Q;refine erA (n:=21) (rs:=[.tmp 4]) e122 ?_;simp only [BZ,S,seval];refine ar (pd s.ok (l _ _ s)) ?_;intro V C;simp only [BZ];refine aD (fun(i:Nat) t h=>i<=γ.arcs.length/\ ∃F,ItS d D h F/\Own B j h F/\J (q+((zM i).filter f).length) h F/\t 0=.func (.func g) #[] post/\t 2=ptrTo b/\t 7=.int .i64 (γ.arcs.length:Nat)/\t 8=.int .i64 i) (fun i=>γ.arcs.length-i) ?_ 0 _ _ ?_
 . intro i N t h ⟨hi,F,s,o,r,r0,r2,r7,r8⟩;have w:am .i64 ((i:Int)+1)=((i+1:Nat):Int):=(by rw [wrap64]<;>omega);by_cases hlt:i<γ.arcs.length
   . simp only [BZ,r0,r7,r8,aq,hlt,seval];refine ar (A _ _ s o i hlt) ?_;intro W e;have E:=oH P ((o.gr e).2 b z).2.2;cases G:f i with
     | true=>
       have H:((zM (i+1)).filter f).length=((zM i).filter f).length+1:=(by rw [oF,if_pos G];simp);simp only [BZ,r2,E,seval];refine iE Y (s.gr e) (Y.gr _ _ _ _ r e) (i:=q+((zM i).filter f).length) (R i hlt G) ?_ ?_ ?_
       . intro I T a U m3 K;simp only [BZ,r8,w,seval];exact N (i+1) _ _ (by omega) ⟨by omega,T,U,(o.gr e).mo m3 K,by rw [H];exact a,by simp [ao,r0,r2,ah,r7]⟩
       . intro I a _;simp only [BZ,ab,seval];exact .inr a
       . intro v I a;exact absurd a (O v I)
     | false=>have H:(zM (i+1)).filter f=(zM i).filter f:=(by rw [oF,if_neg (by rw [G];decide)];simp);simp only [BZ,r8,w,seval];exact N (i+1) _ _ (by omega) ⟨by omega,F,s.gr e,o.gr e,by rw [H];exact Y.gr _ _ _ _ r e,by simp [ao,r0,r2,ah,r7]⟩
   . have:i=γ.arcs.length:=(by omega);subst this;simp only [BZ,ab,r7,r8,aq,hlt,seval];exact .inl ⟨F,s,o,r⟩
 . exact⟨Xg _,F,s.gr C,o.gr C,Y.gr _ _ _ _ r C,by simp [ao,cC,ah]⟩
theorem worth_ok(j:OZ a)(l:Fl p):Ret zB 68 [ptrTo bp,p,.int .i64 (k:Nat)] a fun v h'=>Gr a h'/\ ∃b d e,v=.func (.func 121) #[] #[ptrTo b,ptrTo d,ptrTo e]/\a.n<=b/\a.n<=d/\a.n<=e/\h'.load b 0 1=some [ptrTo bp]/\h'.load d 0 1=some [p]/\h'.load e 0 1=some [.int .i64 (k:Nat)]:=by have S:=Si j;refine erA (n:=8) (rs:=[.tmp 6]) e68 ?_;simp only [BZ,seval];refine ag (dU (by exact dB)) S ?_;clear S;intro h b S f;simp only [BZ,if_false,seval];refine ag (dU (by assumption)) S ?_;clear S;intro h d S g;simp only [BZ,if_false,seval];refine ag (dU (by exact cE)) S ?_;clear S;intro h e S i;simp only [BZ,ab,seval];exact⟨S.gr,b,d,e,rfl,f,g,i,S.ld m2 rfl,S.ld m1 rfl,S.ld m0 rfl⟩
def insB(γ:Gra)(c:Nat->Nat)(k a:Nat):Bool:=decide (c (γ.arcs.getD a default).s=k/\c (γ.arcs.getD a default).t=k)
theorem worth2_ok(g:OZ h)(b:Good γ)(i:cI h nb (ptrTo bp) γ)(x:jY h mb p γ.nodes m c){f:Nat}(j:h.load d 0 1=some [ptrTo bp])(l:h.load e 0 1=some [p])(o:h.load f 0 1=some [.int .i64 (k:Nat)]){a:Nat}(q:a<γ.arcs.length):cj zB 123 ([.int .i64 (a:Nat)]++[ptrTo d,ptrTo e,ptrTo f]) h (.bool (insB γ c k a)):=by
 refine erA (n:=11) (rs:=[.tmp 5]) e123 ?_;simp only [BZ,j,l,o,seval];refine ar (inside_ok (N:=0) g b i x q) ?_;intro s r;simp only [BZ,ab,seval];exact⟨rfl,r⟩
theorem worth3_ok(g:OZ h)(i:h.load b 0 1=some [.slice (some ⟨d,0,none⟩) n n])(R:Row h d (ij n f) 1){a:Nat}(e:a<n):cj zB 127 ([.int .i64 (a:Nat)]++[ptrTo b]) h (.bool (f a)):=by
 have S:=Si g;have j:=R.load1 (bolC_at (f:=f) e);have l:(a:Int)<(n:Int):=by omega
 refine erA (n:=14) (rs:=[.tmp 3]) e127 ?_;simp only [BZ,ab,i,l,e,j,seval];exact S.gr
theorem flat_at{a β:Type}{f:a->List β}{l:List a}{q:Nat}{x:β}(b:j<l.length)(h:(f l[j])[q]? =some x):(l.flatMap f)[((l.take j).flatMap f).length+q]? =some x:=by
 have e:l=l.take j++l[j]::l.drop (j+1):=by rw [<-XV b,YT]
 conv=>lhs;rw [e]
 rw [Xz,zO,XH (by simp)];have d:=(List.getElem?_eq_some_iff.1 h).1;have g:(Xo j l++l[j]::Xp (j+1) l).take j=l.take j:=by rw [<-e]
 rw [g,YK,XL d];exact h
noncomputable def rZ(γ:Gra)(b:Nat):List Nat:=(zM γ.arcs.length).filter (lZ γ b)
noncomputable def fZ(γ:Gra)(c:Nat->Nat)(k:Nat):List Nat:=(zM γ.arcs.length).filter (insB γ c k)++((zM γ.nodes).filter (borB γ c k)).flatMap (rZ γ)
theorem worth1_it{z:Hp}(O:OZ hq)(t:OZ z)(kq:ia hq z)(nq:hq.n<=z.n)(y:Good γ)(hn:cI hq nb (ptrTo bp) γ)(x:jY hq mb p γ.nodes m c){A D E:Nat}(e3:z.load A 0 1=some [ptrTo bp])(e4:z.load D 0 1=some [p])(e5:z.load E 0 1=some [.int .i64 (k:Nat)]):vb zB 121 [] [ptrTo A,ptrTo D,ptrTo E] z (fun c=>c=A\/c=D\/c=E\/c<hq.n) ((fZ γ c k).map fun(a:Nat)=>[.int .i64 (a:Nat)]):=by
 intro lb J Z hz Y h F s P;have n2:=y.n2;have fp:Fl p:=by obtain⟨b,_,rfl,_⟩:=x.at0;exact dB
 have kN: ∀h F,ItS z (fun c=>c=A\/c=D\/c=E\/c<hq.n) h F->ia hq h:=fun h F s=>s.keep kq nq (fun c hc=>.inr (.inr (.inr hc)));have u: ∀h F,ItS z (fun c=>c=A\/c=D\/c=E\/c<hq.n) h F->cI h nb (ptrTo bp) γ:=fun h F s=>hn.keep O (kN h F s);have G: ∀h F,ItS z (fun c=>c=A\/c=D\/c=E\/c<hq.n) h F->jY h mb p γ.nodes m c:=fun h F s=>x.keep O (kN h F s);have aa: ∀a,a<γ.arcs.length->insB γ c k a=true->((fZ γ c k).map fun(a:Nat)=>[Value.int .i64 (a:Nat)])[0+((zM a).filter (insB γ c k)).length]? =some [.int .i64 (a:Nat)]:=fun a I q=>by have U:=ze q _ I;unfold fZ;rw [Xd,XD,XL (List.getElem?_eq_some_iff.1 U).1,U];rfl
 have S:=Si s.ok;refine enA (n:=31) (rs:=[]) e121 ?_;simp only [BZ,seval];refine ag (dU (by exact jg)) S ?_;clear S;intro h l S ac;have s1:=s.gr S.gr;have j1:=Y.gr _ _ _ _ P S.gr;have zy:=(S.row (b:=l) m0).lt S.ok;have ly:=S.ld (b:=l) (o:=0) m0 rfl;have o1:Own (· =l) _ _ F:=⟨XB _,fun b q=>⟨by subst q;exact zy,fun H=>by subst q;have:=s.lt _ H;omega,rfl⟩⟩;simp only [BZ,seval];refine step_ret (won_ok t y hz Y (B:=(· =l)) rfl ly (.inl rfl) e3 u (g:=123) (post:=#[ptrTo A,ptrTo D,ptrTo E]) (f:=insB γ c k) (fun h F s _ a I=>worth2_ok s.ok y (u _ _ s) (G _ _ s) (s.load t e3 (.inl rfl)) (s.load t e4 (.inr (.inl rfl))) (s.load t e5 (.inr (.inr (.inl rfl)))) I) aa s1 o1 j1) ?_;rintro v h2 (⟨rfl,F2,C,o2,j2⟩|⟨rfl,z2⟩)
 . simp only [BZ,C.load t e3 (.inl rfl),C.load t e4 (.inr (.inl rfl)),C.load t e5 (.inr (.inr (.inl rfl))),seval];refine step_ret (border_ok C.ok y (u _ _ C) (G _ _ C) (k:=k)) ?_;rintro M Q ⟨gB,V,nB⟩;have sA:=C.gr gB;have jA:=Y.gr _ _ _ _ j2 gB;have W:=o2.gr gB;have lB:Q.load l 0 1=some [.func (.yield lb) #[] #[]]:=oH ly (W.2 l rfl).2.2;have ad:l<Q.n:=Xq zy W.1;have oB:Own (fun c=>c=l\/aA M c) Q Q F2:=⟨XB _,fun b q=>⟨q.elim (fun e=>by subst e;exact ad) (fun h=>V.lt sA.ok h),fun H=>q.elim (fun e=>(W.2 b e).2.1 H) (fun h=>by have:=nB b h;have:=C.lt b H;omega),rfl⟩⟩;generalize X:(zM γ.nodes).filter (borB γ c k)=L at V;have af: ∀b∈L,b<γ.nodes:=fun b q=>(by rw [<-X]at q;exact List.mem_range.1 (List.mem_filter.1 q).1);have ak:L.length<=γ.nodes:=(by rw [<-X];exact Af);simp only [BZ,V.lenq,seval];refine aD (fun(j:Nat) N h=>j<=L.length/\ ∃F,ItS z (fun c=>c=A\/c=D\/c=E\/c<hq.n) h F/\Own (fun c=>c=l\/aA M c) Q h F/\J (((zM γ.arcs.length).filter (insB γ c k)).length+((L.take j).flatMap (rZ γ)).length) h F/\N 1=ptrTo A/\N 5=.func (.func 122) #[] #[ptrTo A,ptrTo l]/\N 17=M/\N 18=.int .i64 (L.length:Nat)/\N 19=.int .i64 j) (fun j=>L.length-j) ?_ 0 _ _ ?_
   . clear S s1 j1 o1 C j2 o2 sA jA W oB;intro j ih N h ⟨hj',F,s,o,P,r1,r5,r17,r18,r19⟩;have w:am .i64 ((j:Int)+1)=((j+1:Nat):Int):=(by rw [wrap64]<;>omega);by_cases hlt:j<L.length
     . have q:=af _ (Xu hlt);have sl:aH h 1 gC M L:=sl_get V (fun c hc=>(o.2 c (.inr hc)).2.2);obtain⟨d,oo,x0,y0⟩:=sl.ix (kd:=.i64) jt hlt;have R: ∀a,a<γ.arcs.length->lZ γ L[j] a=true->((fZ γ c k).map fun(a:Nat)=>[Value.int .i64 (a:Nat)])[((zM γ.arcs.length).filter (insB γ c k)).length+((L.take j).flatMap (rZ γ)).length+((zM a).filter (lZ γ L[j])).length]? =some [.int .i64 (a:Nat)]:=fun a I q=>(by have U:(rZ γ L[j])[((zM a).filter (lZ γ L[j])).length]? =some a:=ze q _ I;unfold fZ;rw [X,XD,Y1,XH (by omega),YK,flat_at hlt U];rfl);have tk:((L.take (j+1)).flatMap (rZ γ)).length=((L.take j).flatMap (rZ γ)).length+((zM γ.arcs.length).filter (lZ γ L[j])).length:=(by rw [Xa hlt,Xz,Xh];simp [rZ]);generalize L[j]=b at q y0 R tk;replace y0:h.load d oo 1=some [.int .i64 (b:Nat)]:=y0;simp only [BZ,r1,r17,r18,r19,aq,hlt,x0,y0,s.load t e3 (.inl rfl),seval];refine step_ret (arcsT_ok s.ok y (u _ _ s) q) ?_;rintro r h4 ⟨g4,bl,rfl,R4,nl⟩;have S:=Si g4.ok;simp only [BZ];refine ag ay S ?_;clear S;intro h T S ai;simp only [BZ,seval];refine au (aw S (i:=0) rfl t202.2.2.1 bW (Xb (lbt rfl)) ono) ?_;clear S;rintro h5 ⟨S,_⟩;simp only [LC]at S;have g5:=g4.trans S.gr;have s5:=s.gr g5;have j5:=Y.gr _ _ _ _ P g5;have K:=o.gr g5;have R8:=S.row (b:=T) m0;have Rl:=R4.gr S.gr;have k4:=g4.n;have oC:Own (fun c=>(c=l\/aA M c)\/c=T\/c=bl) h5 h5 F:=⟨XB _,fun b q=>by
        rcases q with q|rfl|rfl
        . exact⟨Xq (K.2 b q).1 K.1,(K.2 b q).2.1,rfl⟩
        . exact⟨R8.lt S.ok,fun H=>by have:=s.lt _ H;omega,rfl⟩
        . exact⟨Rl.lt S.ok,fun H=>by have:=s.lt _ H;omega,rfl⟩⟩
       have l5:h5.load l 0 1=some [.func (.yield lb) #[] #[]]:=oH lB (K.2 l (.inl rfl)).2.2;simp only [BZ,r5,seval];refine step_ret (won_ok t y hz Y (B:=fun c=>(c=l\/aA M c)\/c=T\/c=bl) (.inl (.inl rfl)) l5 (.inl rfl) e3 u (g:=127) (post:=#[ptrTo T]) (f:=lZ γ b) (fun h F s o a I=>worth3_ok s.ok (oH (R8.load1 (o:=0) rfl) (o.2 T (.inr (.inl rfl))).2.2) (Row.of_get (o.2 bl (.inr (.inr rfl))).2.2 Rl) I) R s5 oC j5) ?_;rintro v h6 (⟨rfl,F6,s6,o6,j6⟩|⟨rfl,z6⟩)
       . simp only [BZ,r19,w,seval];refine ih (j+1) _ _ (by omega) ⟨by omega,F6,s6,⟨Xe K.1 o6.1,fun b q=>⟨(K.2 b q).1,(o6.2 b (.inl q)).2.1,(o6.2 b (.inl q)).2.2.trans (K.2 b q).2.2⟩⟩,by rw [tk,<-Y1];exact j6,by simp [ao,r1,ah,r5,r17,r18]⟩
       . simp only [BZ,seval];exact iP rfl ⟨rfl,.inr (.inl ⟨_,rfl,z6⟩)⟩
     . have:j=L.length:=(by omega);subst this;simp only [BZ,r18,r19,aq,hlt,seval];refine dG (cy ⟨rfl,_,rfl,rfl,.inl ⟨_,F,rfl,?_⟩⟩);rw [XE]at P;rw [Xv];unfold fZ;rw [Xh,X];exact P
   . exact⟨Xg _,F2,sA,oB,by simpa using jA,by simp [ao,cC,ah]⟩
 . simp only [BZ,seval];exact iP rfl ⟨rfl,.inr (.inl ⟨_,rfl,z2⟩)⟩
end
def OkB(e:Gra)(c:Nat->Nat)(b k i:Nat)(B:Nat->Nat):Prop:= ∀d a,a/8<b->(kD B b d a=true↔(d<k/\a∈fZ e c d)\/(d=k/\a∈(fZ e c k).take i))
theorem OkB.zero{d:Gra}{c:Nat->Nat}:OkB d c b 0 0 (fun _=>0):=fun e a _=>by simp [kD]
theorem OkB.next{f:Gra}{c:Nat->Nat}(o:OkB f c b k (fZ f c k).length B):OkB f c b (k+1) 0 B:=fun g a h=>by
 rw [o g a h,XE];simp only [XI,XY,and_false,or_false];constructor
 . rintro(⟨i,d⟩|⟨rfl,d⟩)
   . exact⟨by omega,d⟩
   . exact⟨by omega,d⟩
 . rintro⟨i,d⟩;by_cases e:g=k
   . subst e;exact .inr ⟨rfl,d⟩
   . exact .inl ⟨by omega,d⟩
theorem OkB.set{d:Gra}{c:Nat->Nat}(n:b=(d.arcs.length+7)/8)(o:OkB d c b k i B)(l:i<(fZ d c k).length)(hlt:(fZ d c k)[i]<d.arcs.length):OkB d c b k (i+1) (jz B (k*b+(fZ d c k)[i]/8) (setB (B (k*b+(fZ d c k)[i]/8)) ((fZ d c k)[i]%8))):=fun j a m=>by
 rw [Do (by omega) (by omega),Xa l];by_cases e:j=k/\a=(fZ d c k)[i]
 . rw [if_pos e];obtain⟨rfl,e⟩:=e;subst e;exact⟨fun _=>.inr ⟨rfl,List.mem_append.2 (.inr (List.mem_singleton.2 rfl))⟩,fun _=>rfl⟩
 . rw [if_neg e,o j a m];simp only [Yq,XM];constructor
   . rintro(h|⟨g,f⟩)
     . exact .inl h
     . exact .inr ⟨g,.inl f⟩
   . rintro(h|⟨g,f|f⟩)
     . exact .inl h
     . exact .inr ⟨g,f⟩
     . exact absurd ⟨g,f⟩ e
theorem AX{d:Gra}{c:Nat->Nat}{a:Nat}(h:a∈fZ d c k):a<d.arcs.length:=by
 unfold fZ at h;rcases List.mem_append.1 h with h|h
 . exact List.mem_range.1 (List.mem_filter.1 h).1
 . obtain⟨b,_,h⟩:=List.mem_flatMap.1 h;exact List.mem_range.1 (List.mem_filter.1 h).1
theorem perm_db{c:Type}{x a b d:c}{l:List c}:List.Perm (x::([a,b]++(d::l))) ([d,x,a,b]++l):=by show List.Perm ([x,a,b]++d::l) (d::([x,a,b]++l));exact YD
theorem Br{a:List Nat}:keys (L++dV a) []=L.map Y9++a:=by simp [keys,dV,Yz]
theorem ofB_ok{z:Hp}(ok:OZ z){q:Gra}{mb bp cb:Nat}{m:List Int}{c:Nat->Nat}{M:Nat}(E:Good q)(hn:cI z nb (ptrTo bp) q)(x:jY z mb (ptrTo cb) q.nodes m c)(hM:gD m+1=(M:Int))(R:M<=100):Ret zB 20 [ptrTo bp,ptrTo cb] z fun r h'=>Gr z h'/\ ∃t f B,r=ptrTo t/\z.n<=t/\z.n<=f/\t≠f/\jm h' t f M q.arcs.length ((q.arcs.length+7)/8) B/\OkB q c ((q.arcs.length+7)/8) M 0 B:=by
 have S:=Si ok;have n1:=E.n1;have n2:=E.n2;have af:=E.many;have xl:=x.len;have co: ∀{h},Gr z h->oK h (ptrTo cb) m (M:Int):=fun g=>.inr ⟨⟨_,(x.gr g).at0⟩,by rw [hM]⟩;refine erA (n:=33) (rs:=[.tmp 4]) e20 ?_;simp only [BZ,seval];refine ar (Cl S.ok hn (co S.gr) n1 (by omega)) ?_;intro h1 g1;replace S:=S.call g1;simp only [BZ,xl,seval];refine ar (xB S.ok (co S.gr)) ?_;intro P U;replace S:=S.call U;simp only [BZ,seval];refine ar (pd S.ok (hn.gr S.gr)) ?_;intro h3 g3;replace S:=S.call g3;simp only [BZ,seval];refine step_ret (C5 S.ok (Xe R (by decide)) (by omega)) ?_;rintro r A ⟨V,t,f,rfl,nf,al,I,W⟩;have k3:=S.gr.n;have an:=S.ok;have gq:=S.gr.trans V;have kN:=V.n;have gS:=S.gr;clear S;have S:St (· =f) A A [(f,.row _ 1)] []:=St.init1 V.ok (o:=.row _ 1) W.b;have zf:=W.b.lt V.ok;have zp:=W.r.lt V.ok;simp only [BZ];refine ag ay S ?_;clear S;intro h u S ai;simp only [BZ,seval];refine au (aw S (i:=0) rfl ?_ ?_ ?_ ono) ?_
 . exact(by simp only [FA0])
 . exact(by exact dB)
 . exact Xb (lbt rfl)
 clear S;rintro h ⟨S,mo⟩;clear mo;simp only [LC,ae,lay,Xo,Xp,seval]at S;simp only [BZ,seval];have gO: ∀{h:Hp} {L:List (Nat×Ob)} {G:List GL},St (· =f) A h L G->Gr z h:=fun S=>(gq.fr.trans S.fr (fun b e=>.inr (by subst e;omega)):Mo NoM _ _).gr;have kO: ∀{h:Hp} {L:List (Nat×Ob)} {G:List GL},St (· =f) A h L G->jm A t f M q.arcs.length ((q.arcs.length+7)/8) (fun _=>0)->Row h t [.int .i64 M,.int .i64 q.arcs.length,.int .i64 ((q.arcs.length+7)/8:Nat),.slice (some ⟨f,0,none⟩) (M*((q.arcs.length+7)/8)) (M*((q.arcs.length+7)/8))] 1:=fun S b=>Row.of_get (S.fr.get t zp I) b.r;have hr:=fun {h:Hp} {L:List (Nat×Ob)} {G:List GL} (S:St (· =f) A h L G)=>kO S W;refine ar (xB S.ok (co (gO S))) ?_;intro h4 g4;replace S:=S.call g4;simp only [BZ];generalize C:(q.arcs.length+7)/8=l at*
 refine tG (fun(k:Nat) Q d h=>k<=M/\ ∃p B,d=p.map tB/\St (· =f) A h ([(u,.row [ptrTo t] 1),(f,.row (ir (M*l) B) 1)]++dV p) []/\(∀j,B j<256)/\OkB q c l k 0 B/\Q 0=ptrTo bp/\Q 1=ptrTo cb/\Q 5=ptrTo u/\Q 18=.int .i64 (M:Nat)/\Q 19=.int .i64 k) (fun k=>M-k) ?_ 0 _ _ _ ?_
 . clear S g4;rintro k ih Q d h ⟨hk,p,B,rfl,S,hB,oB,r0,r1,r5,r18,r19⟩;have w:am .i64 ((k:Int)+1)=((k+1:Nat):Int):=(by rw [wrap64]<;>omega);by_cases hlt:k<M
   . simp only [BZ,r18,r19,aq,hlt,seval];refine ag ay S ?_;clear S;intro h D S ak;simp only [BZ,seval];refine au (aw S (i:=0) rfl ?_ ?_ ?_ ono) ?_
     . exact(by simp only [FA0])
     . exact(by exact cE)
     . exact Xb (lbt rfl)
     clear S;rintro h ⟨S,mo⟩;clear mo;simp only [LC,ae,lay,Xo,Xp,seval]at S;simp only [BZ,r0,r1,S.ld (b:=D) (o:=0) m0 rfl,seval];refine step_ret (worth_ok S.ok (k:=k) dB) ?_;rintro v hW ⟨gW,w3,w4,w5,rfl,n3,n4,n5,e3,e4,e5⟩;have kk: ∀b∈[D,u,f]++p,z.n<=b/\b<w3/\b<w4/\b<w5/\b<hW.n:=fun b s=>(by have hm:b∈keys ([(D,Ob.row [.int .i64 (k:Nat)] 1),(u,.row [ptrTo t] 1),(f,.row (ir (M*l) B) 1)]++dV p) []:=(by rw [Br];exact s);have h1:=S.key_lt hm;have P:=S.key_own hm;have h3:=gW.n;have h4:z.n<=b:=P.elim (fun h=>by omega) (fun h=>by subst h;omega);omega);replace S:=S.call gW;have aL:=gW.n;have Y:=gO S;have zN:=S.fr.n;have it:=worth1_it ok S.ok Y.keep Y.n E hn x e3 e4 e5;simp only [BZ];refine kH S (g:=121) (a:=#[]) (b:=#[ptrTo w3,ptrTo w4,ptrTo w5]) (by simp [bS,ao,ah]) rfl rfl ?_;intro P H J Z a0 a1 U;obtain⟨X,hX,Z⟩: ∃X:iI,X=_/\St (· =f) A P ([(J,.loop X),(H,.dfr),(D,.row [.int .i64 (k:Nat)] 1),(u,.row [ptrTo t] 1),(f,.row (ir (M*l) B) 1)]++dV p) []:=⟨_,rfl,Z⟩;have hJ:Yld zB J (fun i h' F=> ∃B,St (· =f) A h' ([(J,.loop X),(H,.dfr),(D,.row [.int .i64 (k:Nat)] 1),(u,.row [ptrTo t] 1),(f,.row (ir (M*l) B) 1)]++dV p) []/\(∀j,B j<256)/\OkB q c l k i B/\F=[J,H,D,u,f]++p) (fun _ _=>False) ((fZ q c k).map fun(a:Nat)=>[.int .i64 (a:Nat)]):=by
      refine⟨?_,?_,fun _ _ h=>h.elim,?_⟩
      . rintro i h F ⟨B,S,_,_,rfl⟩;exact⟨S.ok,fun b s=>S.key_lt (by rw [Br];exact s)⟩
      . rintro i h F h' ⟨B,S,a,b,rfl⟩ gg;exact⟨B,S.call gg,a,b,rfl⟩
      . rintro i x hR F K ⟨B,S,hB,oB,rfl⟩;have N:i<(fZ q c k).length:=(by have:=(List.getElem?_eq_some_iff.1 K).1;simpa using this);rw [XD,Xj N]at K;cases K;have O:(fZ q c k)[i]<q.arcs.length:=AX (Xu N);have aa:=oB.set C.symm N O;generalize(fZ q c k)[i]=a at O aa;subst hX;refine kK (S.get m0) (by rw [e20];rfl) rfl ?_;have S0:=S;replace S:=S.base;simp only [BZ,seval];refine jP S (i:=0) rfl rfl rfl rfl rfl ?_;clear S;intro h S;simp only [LC]at S;simp only [BZ,r5,S.ld (b:=D) (o:=0) m2 rfl,S.ld (b:=u) (o:=0) m3 rfl,seval];have BA:jm h t f M q.arcs.length l B:=⟨hr (S0.rebase S),S.row (b:=f) m4,hB⟩;refine step_ret (bSet_ok S.ok BA I hlt O R (by omega) C.symm) ?_;rintro v h5 ⟨f5,rfl,B5⟩;have S5:=S.call1 (i:=4) (o':=.row _ 1) rfl f5 B5.b;simp only [Xt,List.set_cons_succ]at S5;clear S;simp only [BZ];refine gR S5 (i:=0) rfl ?_;clear S5;intro h S;simp only [LC]at S;refine .inl ⟨rfl,_,⟨_,S0.rebase S,B5.lt,aa,rfl⟩,?_,fun c hc=>.inl hc⟩;exact S.fr.mono fun b s=>by simpa [keys,dV,Yz]using s
     refine d7 (it J _ _ (fun _ _ h=>h) hJ P ([J,H,D,u,f]++p) ?_ ⟨B,Z,hB,oB,rfl⟩) fun o rc h' y=>qR y ?_
     . have kn:=U.n;refine⟨Z.ok,U.n,fun b s hd=>U.get b s,fun b s h=>?_,fun b s=>Z.key_lt (by simpa [keys,dV,Yz]using s)⟩;simp only [Yq,X3,XY,or_false]at s;obtain⟨h1,P⟩:=h;have K:b=J\/b=H\/b∈[D,u,f]++p:=by
        rcases s with(s|s|s)|s
        . exact .inl s
        . exact .inr (.inl s)
        . exact .inr (.inr (List.mem_append.2 (.inl (by simpa using s))))
        . exact .inr (.inr (List.mem_append.2 (.inr s)))
       rcases K with rfl|rfl|K
       . omega
       . omega
       . have:=kk b K;omega
     . rintro F ⟨B1,T,ad,ac,rfl⟩;rw [Xv]at ac;subst hX;refine⟨_,T.get m0,X7,?_⟩;replace T:=T.dead;show Run _ _ _ _ _ _ _ _;have T1:St (· =f) A _ ([(H,.dfr),(D,.row [.int .i64 (k:Nat)] 1),(u,.row [ptrTo t] 1),(f,.row (ir (M*l) B1) 1)]++dV p) []:=T;have T':St (· =f) A _ ([(u,.row [ptrTo t] 1),(f,.row (ir (M*l) B1) 1)]++(H,.dfr)::dV p) []:=(T1.permL perm_db).drop1;simp only [BZ,r19,w,seval];exact ih (k+1) _ _ _ (by omega) ⟨by omega,H::p,B1,rfl,T',ad,ac.next,by simp [ao,r0,ah,r1,r5,r18]⟩
   . have:k=M:=(by omega);subst this;have gE:=gO S;have S0:=S;simp only [LC]at S;simp only [BZ,r5,r18,r19,aq,hlt,S.ld (b:=u) (o:=0) m0 rfl,seval];refine ig (ib p _ (L:=[(u,_),(f,_)]) (S0.permL YX) fun h4 S4=>?_);refine⟨rfl,(dk (by decide)).2 (bV.2 ?_)⟩;refine⟨gO S4,t,f,B,?_,by omega,by omega,I,⟨hr S4,S4.row m1,hB⟩,oB⟩;exact rfl
 . exact⟨Xg _,[],_,rfl,S,W.lt,OkB.zero,by simp [ao,cC,ah]⟩
theorem clr1_ok(l:OZ a)(R:Row a c (ir n B) 1)(g:j<n)(m:B j<256)(p:i<8)(q:a.load d 0 1=some [.bool false])(e:d≠c):Ret zB 70 [.pointer (some ⟨c,j,none⟩),.int .u8 ((2 ^i:Nat):Int),ptrTo d] a fun r h'=>Mo (· =c) a h'/\r=.bool true/\Row h' c (ir n (jz B j (B j ^^^(B j&&& 2 ^i)))) 1:=by
 have S:=St.init1 l (o:=.row (ir n B) 1) R;have k:=S.ld (b:=c) (o:=j) m0 (xE g);have s:=pow8 p;refine erA (n:=19) (rs:=[.tmp 5]) e70 ?_;simp only [BZ,k,A8 m s,seval];refine au (aw S (i:=0) rfl Tryz.t5.2.2.1 cE (by rw [pW];exact g) ono) ?_;clear S k;rintro h ⟨S,t⟩;simp only [LC]at S;rw [yw]at S;have f:=S.old q e;simp only [BZ,ab,f,seval];exact⟨S.fr,S.row m0⟩
def Tz(b a:Nat)(B:Nat->Nat):Prop:= ∀r i,b<=i->i/8<a->kD B a r i=false
theorem bitB_clr{a:Nat}(h:kD B a r i=false):kD (jz B j (B j ^^^(B j&&& 2 ^k))) a r i=false:=by
 unfold kD jz at*
 split
 . rename_i e;rw [e]at h;rw [Nat.testBit_xor,Nat.testBit_and,h];rfl
 . exact h
theorem bSetZ_ok{w:Hp}(G:OZ w)(m:jm w y u rows k d B)(A:y≠u)(L:r<rows)(N:i<k)(p:rows<=100)(s:k<=1000)(t:d=(k+7)/8)(x:Bool):Ret zB 21 [ptrTo y,.int .i64 (r:Nat),.int .i64 (i:Nat),.bool x] w fun v h'=>Mo (· =u) w h'/\ ∃O,jm h' y u rows k d O/\(Tz k d B->Tz k d O):=by
 cases x with
 |true=>exact(bSet_ok G m A L N p s t).mono fun v h' ⟨a,_,b⟩=>⟨a,_,b,fun z H I F D=>by
  rw [Do (by omega) D,if_neg (fun e=>by omega)];exact z H I F D⟩
 |false=>
 obtain⟨X,Y,Z,n4,P,n6,Q⟩:=yF L N p s t;have pl: ∀{h:Hp} {E:Nat},Gr w h->h.load E 0 1=some [.bool false]->E≠u->Ret zB 69 [ptrTo y,.int .i64 (r:Nat),.int .i64 (i:Nat),.func (.func 70) #[] #[ptrTo E]] h fun v h'=>Mo (· =u) h h'/\v=.bool true/\Row h' u (ir (rows*d) (jz B (r*d+i/8) (B (r*d+i/8) ^^^(B (r*d+i/8)&&& 2 ^(i%8))))) 1:=by
  intro h E g l7 h7;have S:=Si g.ok;have C:=m.gr g;have c1: ¬(r:Int)<0:=by omega
  have c2: ¬(rows:Int)<=(r:Int):=by omega
  have c3: ¬(i:Int)<0:=by omega
  have c4: ¬(k:Int)<=(i:Int):=by omega
  have l2:=C.r.load1 (o:=2) rfl;have l3:=C.r.load1 (o:=3) rfl;have zp:=C.r.lt g.ok;refine erA (n:=46) (rs:=[.tmp 8]) e69 ?_;simp only [BZ,c1,seval];refine ar (nQ S.ok C.bits) ?_;intro F J;replace S:=S.call J;simp only [BZ,c2,c3,seval];refine ar (qC S.ok (C.gr J).bits) ?_;intro D T;replace S:=S.call T;have l:=J.trans T;have k2:=l.load l2;have k3:=l.load l3;simp only [BZ,c4,seval];refine av (aB rfl) (q:=0) (ps:=[]) (by kernel_rfl) ?_;simp only [BZ,cls,k2,k3,X,Y,Z,n4,P,iD (n:=8) (by decide),fS (n:=8) (by decide),b_shl8 Q,seval];refine cF (clr1_ok S.ok (C.b.gr l) P (C.lt _) Q (l.load l7) h7) ?_;rintro v h3 ⟨U,rfl,R3⟩;have vv:leaves D h3 y=true:=iG (U.get y (Xq zp l.n) A);simp only [BZ,cls,ab,seval];exact⟨(l.fr (M:=(· =u))).trans U (fun c K=>.inl K),R3⟩
 have S:=Si G;have zb:=m.b.lt G;refine erA (n:=14) (rs:=[.tmp 8]) e21 ?_;simp only [BZ,seval];refine ag (dU (by exact qi)) S ?_;clear S;intro h E S V;simp only [BZ,seval];have k7:=S.fr.n;refine step_ret (pl S.gr (S.ld m0 rfl) (by omega)) ?_;rintro v h ⟨f,rfl,R⟩;simp only [BZ,seval];have W:Mo (· =u) w h:=(S.gr.fr (M:=(· =u))).trans f (fun c K=>.inl K);refine⟨W,_,⟨W.has (o:=.row _ 1) m.r A,R,fun j=>?_⟩,fun z H I F D=>bitB_clr (z H I F D)⟩;unfold jz
 split
 . exact XO (n:=8) (m.lt _) (XN Yh (m.lt _))
 . exact m.lt _
noncomputable def toR(a:Gra)(l:List Int)(i:Nat):List Int:=qd (seen a.arcs Arc.t Arc.s) a.nodes (l.getD i 0).toNat
noncomputable def frR(a:Gra)(l:List Int)(i:Nat):List Int:=qd (seen a.arcs Arc.s Arc.t) a.nodes (l.getD i 0).toNat
theorem tabOf_ok{o:Hp}(A:OZ o){k:Gra}(t:Good k){B H:Value}{I:Nat}(u:cI o I B k)(p:aH o 1 (encI .i64) H l)(f:l.length<1000):Ret zB 15 [B,H] o fun r h'=>Gr o h'/\((¬gU k.nodes l/\r=.pointer none)\/(gU k.nodes l/\TabAt h' o.n r k.nodes l (toR k l) (frR k l))):=by
 have S:=Si A;obtain⟨N,rfl⟩: ∃b,B=ptrTo b:=by obtain⟨b,_,_,_,_,_,e,_⟩:=u.ex;exact⟨b,e⟩
 refine erA (n:=28) (rs:=[.tmp 4]) e15 ?_;simp only [BZ,seval];refine ar (dm S.ok (u.gr S.gr)) ?_;intro h g;replace S:=S.call g;simp only [BZ,seval];refine ar (may_ok S.ok (p.gr S.gr) (by omega)) ?_;intro h g;replace S:=S.call g;by_cases j:gU k.nodes l
 . have C:decide (gU k.nodes l)=true:=decide_eq_true j;simp only [BZ,C,seval];refine ar (dm S.ok (u.gr S.gr)) ?_;intro h g;replace S:=S.call g;simp only [BZ,seval];have J:=S.fr.n;refine step_ret (je S.ok (aE .i64) (p.gr S.gr) (by omega)) ?_;intro v h ⟨g,d,hM⟩;replace S:=S.call g;rename Value=>vM;obtain⟨O,P,Q,rfl⟩:=d.form;simp only [BZ,seval];refine step_ret (rows_ok S.ok dB p.fl jg) ?_;intro v h ⟨g,b1,b2,b3,e,q1,q2,q3,y1,y2,y3⟩;replace S:=S.call g;replace d:=d.gr g;clear g;subst e;simp only [BZ,seval];have z:=rows_it A S.ok S.gr.keep S.fr.n u (p.gr S.gr) (fun i w=>⟨(j.2 i w).1,(j.2 i w).2.1⟩) f (runTo t) (m:=o.n) S.fr.n y1 y2 y3;refine step_ret (yO S.ok z S.fr.n f) ?_;intro v h ⟨g,q⟩;replace S:=S.call g;replace d:=d.gr g;clear g;rename Value=>vT;obtain⟨R,T,U,rfl⟩: ∃a n c,vT=.slice a n c:=(by obtain⟨_,s,_⟩:=q;exact s.form);clear z y1 y2 y3 q1 q2 q3;simp only [BZ,seval];refine step_ret (rows_ok S.ok dB p.fl jg) ?_;intro v h ⟨g,b1,b2,b3,e,q1,q2,q3,y1,y2,y3⟩;replace S:=S.call g;replace d:=d.gr g;replace q:=q.gr g;clear g;subst e;simp only [BZ,seval];have z:=rows_it A S.ok S.gr.keep S.fr.n u (p.gr S.gr) (fun i w=>⟨(j.2 i w).1,(j.2 i w).2.1⟩) f (runFrom t) (m:=o.n) S.fr.n y1 y2 y3;refine step_ret (yO S.ok z S.fr.n f) ?_;intro v h ⟨g,L2⟩;replace S:=S.call g;replace d:=d.gr g;replace q:=q.gr g;clear g;rename Value=>vF;obtain⟨V,W,X,rfl⟩: ∃a n c,vF=.slice a n c:=(by obtain⟨_,s,_⟩:=L2;exact s.form);simp only [BZ,seval];have K:=S;replace S:=S.base;refine ag (bK (by intro x e;cases e)) S ?_;clear S;intro h b S L;simp only [ae]at S;simp only [BZ,ab,seval];have D:=S.fr;have y:=d.mo D (fun c _ j=>by cases j);have E:=q.mo D (fun c j=>by cases j);have F:=L2.mo D (fun c j=>by cases j);have G:=S.row (b:=b) m0;replace S:=K.rebase S;exact⟨S.gr,.inr ⟨j,⟨b,_,_,_,rfl,G,y,E,F,(S.own _ m0).1.elim (fun h=>h) (fun h=>h.elim),fun c M=>Xe J (hM c M)⟩⟩⟩
 . have C:decide (gU k.nodes l)=false:=decide_eq_false j;simp only [BZ,ab,C,seval];exact⟨S.gr,.inl j⟩
theorem xH(c:OZ a)(t:TabAt a m p N l R Q):cj zB 71 [p] a (.int .i64 N):=by have S:=Si c;obtain⟨b,f,g,h,rfl,d,_⟩:=t.ex;have e:=d.load1 (o:=0) rfl;refine erA (n:=9) (rs:=[.tmp 2]) e71 ?_;simp only [BZ,ab,e,seval];exact S.gr
theorem qt(e:OZ a)(t:TabAt a m p N l R Q)(d:l.length<1000):Ret zB 27 [p] a fun r h'=>Gr a h'/\aH h' 1 (encI .i64) r l/\ ∀c,aA r c->a.n<=c:=by have S:=Si e;obtain⟨b,k,q,s,rfl,f,i,_⟩:=t.ex;have j:=f.load1 (o:=1) rfl;refine erA (n:=10) (rs:=[.tmp 2]) e27 ?_;simp only [BZ,j,seval];refine step_ret (je S.ok (aE .i64) i (by omega)) ?_;intro v h ⟨g,sl,hc⟩;replace S:=S.call g;simp only [BZ,ab,seval];exact⟨S.gr,sl,hc⟩
def io(N n:Nat)(R:Nat->List Int)(i v:Int):Int:=if 0<=i/\i<n/\0<=v/\v<N then(R i.toNat).getD v.toNat 0 else 72057594037927936
theorem tos_ok(c:OZ a)(t:TabAt a m p N l R Q):Ret zB 194 [p] a fun r h'=>Gr a h'/\cS h' m r l.length R:=by have S:=Si c;obtain⟨b,f,g,h,rfl,d,_,L,_⟩:=t.ex;have e:=d.load1 (o:=2) rfl;refine erA (n:=7) (rs:=[.tmp 2]) e194 ?_;simp only [BZ,ab,e,seval];exact⟨S.gr,L⟩
theorem froms_ok(c:OZ a)(t:TabAt a m p N l R Q):Ret zB 195 [p] a fun r h'=>Gr a h'/\cS h' m r l.length Q:=by have S:=Si c;obtain⟨b,f,g,h,rfl,d,_,_,L,_⟩:=t.ex;have e:=d.load1 (o:=3) rfl;refine erA (n:=7) (rs:=[.tmp 2]) e195 ?_;simp only [BZ,ab,e,seval];exact⟨S.gr,L⟩
theorem Cd(z:OZ a){W:Nat->List Int}(t:TabAt a m p N l R Q){g:FuncId}(A: ∀h,Gr a h->Ret zB g [p] h fun r h'=>Gr h h'/\cS h' m r l.length W)(B: ∀i,i<l.length->(W i).length=N){i v:Int}:cj zB 193 [p,.func (.func g) #[p] #[],.int .i64 i,.int .i64 v] a (.int .i64 (io N l.length W i v)):=by
 have S:=Si z;obtain⟨b,I,J,K,rfl,u,f,_⟩:=t.ex;have x:=u.load1 (o:=0) rfl;have j:=u.load1 (o:=1) rfl;unfold io;refine erA (n:=44) (rs:=[.tmp 8]) e193 ?_;by_cases d:i<0
 . rw [if_neg (by omega)];simp only [BZ,ab,d,seval];exact S.gr
 . by_cases k:(l.length:Int)<=i
   . rw [if_neg (by omega)];simp only [BZ,ab,j,d,k,f.lenq,seval];exact S.gr
   . by_cases s:v<0
     . rw [if_neg (by omega)];simp only [BZ,ab,j,d,k,s,f.lenq,seval];exact S.gr
     . by_cases y:(N:Int)<=v
       . rw [if_neg (by omega)];simp only [BZ,ab,x,j,d,k,s,y,f.lenq,seval];exact S.gr
       . rw [if_pos (by omega)];obtain⟨e,rfl⟩:=X2 (show 0<=i by omega);obtain⟨q,rfl⟩:=X2 (show 0<=v by omega);simp only [BZ,x,j,d,k,s,y,f.lenq,seval];refine step_ret (A _ S.gr) ?_;intro v h ⟨g,L⟩;replace S:=S.call g;obtain⟨w,⟨c,o,C,D⟩,sw,_⟩:=L.row (i:=e) (by omega);have E:=B e (by omega);obtain⟨M,O,F,G⟩:=sw.ix (kd:=.i64) (aE .i64) (i:=q) (by omega);have H:(W e).getD q 0=(W e)[q]:=(by simp [Xf,show q<(W e).length by omega]);simp only [BZ,ab,C,D,F,G,encI,Xw,H,seval];exact S.gr
theorem tabTo_ok(b:OZ a)(t:TabAt a m p N l R Q)(c: ∀i,i<l.length->(R i).length=N){i v:Int}:cj zB 140 [p,.int .i64 i,.int .i64 v] a (.int .i64 (io N l.length R i v)):=by have S:=Si b;refine erA (n:=13) (rs:=[.tmp 6]) e140 ?_;simp only [BZ,seval];refine ar (Cd S.ok t (fun h g=>tos_ok g.ok (t.gr g)) c) ?_;intro h g;replace S:=S.call g;simp only [BZ,ab,seval];exact S.gr
theorem E1(b:OZ a)(t:TabAt a m p N l R Q)(c: ∀i,i<l.length->(Q i).length=N){i v:Int}:cj zB 141 [p,.int .i64 i,.int .i64 v] a (.int .i64 (io N l.length Q i v)):=by have S:=Si b;refine erA (n:=13) (rs:=[.tmp 6]) e141 ?_;simp only [BZ,seval];refine ar (Cd S.ok t (fun h g=>froms_ok g.ok (t.gr g)) c) ?_;intro h g;replace S:=S.call g;simp only [BZ,ab,seval];exact S.gr
def Sep(a:List Value):Prop:= ∀(i j:Nat) (w u:Value) (c:Nat),a[i]? =some w->a[j]? =some u->i≠j->aA w c-> ¬aA u c
theorem yx{b:Type}{l:List b}{x u:b}(h:(l++[x])[j]? =some u):l[j]? =some u\/(j=l.length/\u=x):=by
 by_cases c:j<l.length
 . rw [XL c]at h;exact .inl h
 . rw [XH (by omega)]at h;have a:j-l.length=0:=(by have:=(List.getElem?_eq_some_iff.1 h).1;simp at this;omega);rw [a]at h;cases h;exact .inr ⟨by omega,rfl⟩
theorem Sep.push{f:List Value}{y:Value}(s:Sep f)(h: ∀(j:Nat) u,f[j]? =some u-> ∀c,aA u c-> ¬aA y c):Sep (f++[y]):=by
 intro i j w u c a b g d e;rcases yx a with a|⟨k,l⟩<;>rcases yx b with b|⟨e3,m⟩
 . exact s i j w u c a b g d e
 . rw [m]at e;exact h i w a c d e
 . rw [l]at d;exact h j u b c e d
 . exact g (k.trans e3.symm)
def WrI(h:Hp)(w:Value)(l:List Int):Prop:=aH h 1 (encI .i64) w l/\(l≠ []-> ∃b,w=.slice (some ⟨b,0,some 1⟩) l.length l.length/\Row h b (ints l) 1)
theorem WrI.mo{M:Nat->Prop}{h h':Hp}{w:Value}{l:List Int}(r:WrI h w l)(g:Mo M h h')(a: ∀b,aA w b-> ¬M b):WrI h' w l:=
 ⟨r.1.mo g a,fun c=>by obtain⟨b,e,k⟩:=r.2 c;exact⟨b,e,g.has (o:=.row _ 1) k (a b (by rw [e];rfl))⟩⟩
theorem WrI.gr{w:Value}(r:WrI h w l)(g:Gr h h'):WrI h' w l:=r.mo (M:=NoM) g.fr (fun _ _ h=>h)
theorem D7(m:OZ a){xs:List Int}(hs:aH a 1 (encI .i64) v xs)(q:xs.length<1000000):Ret zB 106 [v] a fun r h'=>Gr a h'/\WrI h' r xs/\ ∀c,aA r c->a.n<=c:=by
 have S:=Si m;by_cases i:xs=[]
 . obtain⟨r,h',t,g,u,j⟩:=vf m hs q;exact⟨r,h',t,g,⟨u,fun h=>absurd i h⟩,j⟩
 rcases hs with⟨rfl,rfl⟩|⟨b,o,s,c,rfl,w,x⟩
 . exact absurd rfl i
 . refine erA (n:=8) (rs:=[.tmp 2]) e106 ?_;simp only [BZ,seval];refine ag (bD (by exact t23.1) (by exact X8) (by decide) (by rfl)) S ?_;clear S;intro h z S p;simp only [LC,bA,bN,ae,Xs,Xd,Xr,Xy,seval]at S;simp only [BZ,seval];have k:aH h 1 (encI .i64) (.slice (some ⟨b,o,s⟩) xs.length c) xs:=.inr ⟨b,o,s,c,rfl,w,S.old x (fun h=>h)⟩;refine dq (S.clone (n:=0) (vs:=[]) t23.1 X8 (by decide) t23.2.2.2.2.2 k.src (aK (aE .i64) xs).symm rfl (by decide) (by rw [aK (aE .i64)];simp;omega) (S.row m0)) ?_;rintro h' v (⟨e,_⟩|⟨d,rfl,l⟩)
   . exact absurd (List.length_eq_zero_iff.1 e) i
   simp only [BZ,ab,seval];have f:Row h' d (ints xs) 1:=l.row m0;have y:a.n<=d:=(l.own _ m0).1.elim (fun h=>h) (fun h=>h.elim);refine⟨l.gr,⟨.inr ⟨d,0,some 1,xs.length,rfl,XB _,?_⟩,fun _=>⟨d,rfl,f⟩⟩,fun c j=>?_⟩
   . rw [f.load (by rw [bR];omega),Xm,Xr,<-bR xs,XE];rfl
   . obtain rfl:d=c:=j;exact y
def LLD(h:Hp)(m k:Nat)(v:Value)(n:Nat)(R:Nat->List Int):Prop:=
 ∃a:List Value,aH h 1 encV v a/\a.length=n/\(∀c,aA v c->m<=c/\c<k)/\(∀(i:Nat) w,a[i]? =some w->WrI h w (R i)/\ ∀c,aA w c->m<=c/\c<k/\ ¬aA v c)/\Sep a
theorem LLD.ll(r:LLD h m k v n R):cS h m v n R:=by obtain⟨g,a,b,c,d,_⟩:=r;exact⟨g,a,b,fun x e=>(c x e).1,fun i w f=>⟨(d i w f).1.1,fun x e=>((d i w f).2 x e).1⟩⟩
theorem LLD.mo{M:Nat->Prop}{h h':Hp}{m k n:Nat}{v:Value}{R:Nat->List Int}(r:LLD h m k v n R)(g:Mo M h h')(o: ∀b,M b->b<m\/k<=b):LLD h' m k v n R:=by obtain⟨q,a,b,c,d,e⟩:=r;exact⟨q,a.mo g (fun x f j=>by have:=c x f;have:=o x j;omega),b,c,fun i w l=>⟨(d i w l).1.mo g (fun x f j=>by have p:=(d i w l).2 x f;have s:=p.1;have t:=p.2.1;have:=o x j;omega),(d i w l).2⟩,e⟩
theorem LLD.gr(r:LLD h m k v n R)(g:Gr h h'):LLD h' m k v n R:=r.mo (M:=NoM) g.fr (fun _ h=>h.elim)
theorem LLD.form(r:LLD h m k v n R): ∃a n c,v=.slice a n c:=by obtain⟨_,s,_⟩:=r;rcases s with⟨rfl,_⟩|⟨b,o,s,c,rfl,_⟩<;>exact⟨_,_,_,rfl⟩
theorem mem_gkey{f:Hp}{a:List Value}(S:St M f h [] [(v,k,a)])(d:aA v c):c∈keys [] [(v,k,a)]:=by
 have g:gy (v,k,a)=some c:=by
  rcases(S.gown (v,k,a) (List.mem_singleton.2 rfl)).1 with⟨e,_⟩|⟨b,n,e,_⟩
  . rw [show v=_ from e]at d;exact d.elim
  . have i:v=.slice (some ⟨b,0,some k⟩) n n:=e;rw [i]at d⊢;exact congrArg some d
 exact List.mem_filterMap.2 ⟨_,List.mem_singleton.2 rfl,g⟩
theorem tw{p:Hp}(X:OZ p)(hs:cS p m v n R)(hn:n<1000)(Y: ∀i,i<n->(R i).length<1000000):Ret zB 55 [v] p fun r h'=>Gr p h'/\LLD h' p.n h'.n r n R:=by
 have S:=Si X;refine erA (n:=18) (rs:=[.tmp 2]) e55 ?_;simp only [BZ,hs.lenq,seval];replace S:=S.nilG (k:=1);refine aD (fun(i:Nat) D h=>i<=n/\ ∃(f:List Value) (t:Value),St NoM p h [] [(t,1,f)]/\f.length=i/\(∀j w,f[j]? =some w->WrI h w (R j)/\ ∀c,aA w c->p.n<=c/\c∉keys [] [(t,1,f)])/\Sep f/\D 2=t/\D 5=v/\D 6=.int .i64 n/\D 7=.int .i64 i) (fun i=>n-i) ?_ 0 _ _ ?_
 . clear S;intro i Z D h ⟨hi,f,t,S,z,hc,hd,r2,r5,r6,r7⟩;have aa:Fl t:=by
    rcases(S.gown _ m0).1 with⟨e,_⟩|⟨_,_,e,_⟩
    . rw [show t=_ from e];exact bW
    . rw [show t=_ from e];exact bW
   by_cases hlt:i<n
   . obtain⟨x,⟨q,o,E,H⟩,N,_⟩:=(hs.gr S.gr).row hlt;have fx:=N.fl;have w:am .i64 ((i:Int)+1)=((i+1:Nat):Int):=(by rw [wrap64]<;>omega);simp only [BZ,r2,r5,r6,r7,aq,hlt,E,H,seval];have I:=S;refine step_ret (D7 S.ok N (Y i hlt)) ?_;rintro y O ⟨g,J,K⟩;have G:=S.call g;obtain⟨A,B,C,rfl⟩:=J.1.form;have fy:Fl (.slice A B C):=bW;have l: ∀(j:Nat) u,(f++[.slice A B C])[j]? =some u->WrI O u (R j)/\ ∀c,aA u c->p.n<=c/\c∉keys [] [(t,1,f)]/\c<O.n:=fun j u d=>by
      rcases yx d with d|⟨rfl,rfl⟩
      . obtain⟨P,Q⟩:=hc j u d;exact⟨P.gr g,fun c a=>⟨(Q c a).1,(Q c a).2,(P.gr g).1.lt G.ok a⟩⟩
      . rw [z];exact⟨J,fun c a=>⟨Xe I.fr.n (K c a),fun L=>by have:=I.key_lt L;have:=K c a;omega,J.1.lt G.ok a⟩⟩
     have M:=hd.push (y:=.slice A B C) fun j u d c a hy=>(by have:=(hc j u d).1.1.lt I.ok a;have:=K c hy;omega);replace S:=G.base;simp only [BZ,seval];refine ag (bD (by exact t39.1) (by exact Y7) (by decide) (by rfl)) S ?_;clear S;intro h T S U;simp only [LC,bA,bN,ae,Xs,Xd,Xr,Xy,seval]at S;simp only [BZ,seval];have F:aF h 1 (.slice (some ⟨T,0,none⟩) 1 1)=some (1,[.slice A B C]):=(by simp only [aF];rw [S.lds (b:=T) (o:=0) (n:=1*1) m0 (lbt rfl)];rfl);replace S:=S.drop1;refine dq (S.grow (j:=0) (m:=1) (new:=[.slice A B C]) rfl t39.1 Y7 (by decide) t39.2.2.2.2.2 F rfl (by decide) (by simp [fy.2.1]) (by simp;omega)) ?_;clear S F;rintro h s S;simp only [LC]at S;have fv:Fl s:=by
      rcases(S.gown _ m0).1 with⟨e,_⟩|⟨_,_,e,_⟩
      . rw [show s=_ from e];exact bW
      . rw [show s=_ from e];exact bW
     simp only [BZ,r7,w,seval];refine Z (i+1) _ _ (by omega) ⟨by omega,f++[.slice A B C],s,G.rebase S,by simp [z],fun j u d=>⟨(l j u d).1.mo S.fr (fun c a=>((l j u d).2 c a).2.1),fun c a=>⟨((l j u d).2 c a).1,fun L=>?_⟩⟩,M,by simp [ao,r5,r6]⟩;rcases S.key_new c L with V|V
     . exact((l j u d).2 c a).2.1 V
     . have:=((l j u d).2 c a).2.2;omega
   . simp only [BZ,ab,r2,r6,r7,aq,hlt,seval];have W:=(S.gown _ m0).1.sl (Bw f).symm sF (by decide);refine⟨S.gr,f,W,by omega,fun c a=>⟨((S.gblk m0 a).1).elim (fun h=>h) (fun h=>h.elim),W.lt S.ok a⟩,fun j u d=>⟨(hc j u d).1,fun c a=>⟨((hc j u d).2 c a).1,(hc j u d).1.1.lt S.ok a,fun hv=>((hc j u d).2 c a).2 ?_⟩⟩,hd⟩;exact mem_gkey S hv
 . exact⟨Xg _,[],_,S,rfl,fun j w z=>by simp at z,fun i j w u c z=>by simp at z,by simp [ao,ct]⟩
def fP(N:Nat)(l:List Int):Prop:=l.length=N/\ ∀x∈l,0<=x/\x<=72057594037927936
def qA(x:Int):Prop:=0<=x/\x<=72057594037927936
theorem mk11_ok(c:OZ a){x:Int}:Ret zB 58 [.int .i64 x] a fun r h'=>Gr a h'/\ ∃t,r=.bool t/\(t=true↔ ¬qA x):=by
 have S:=Si c;by_cases b:x<0
 . refine erA (n:=9) (rs:=[.tmp 2]) e58 ?_;simp only [BZ,ab,b,seval];exact⟨S.gr,_,rfl,by unfold qA;simp;omega⟩
 . refine erA (n:=9) (rs:=[.tmp 2]) e58 ?_;simp only [BZ,ab,b,seval];exact⟨S.gr,_,rfl,by unfold qA;simp;omega⟩
theorem mkIdx_ok{b:Hp}(f:OZ b)(j:aH b 1 (encI .i64) v l)(s:l.length<=1000000):Ret zB 117 [v,.func (.func 58) #[] #[]] b fun r h'=>Gr b h'/\ ∃z,r=.int .i64 z/\(0<=z↔ ¬ ∀x∈l,qA x):=by
 have S:=Si f;refine erA (n:=19) (rs:=[.tmp 4]) e117 ?_;simp only [BZ,j.lenq,seval];refine aD (fun(i:Nat) c h=>i<=l.length/\Gr b h/\(∀x∈l.take i,qA x)/\c 0=v/\c 1=.func (.func 58) #[] #[]/\c 7=.int .i64 l.length/\c 8=.int .i64 i) (fun i=>l.length-i) ?_ 0 _ _ ?_
 . clear S;intro i m c h ⟨hi,S,hall,r0,r1,r7,r8⟩;by_cases hlt:i<l.length
   . obtain⟨q,o,d,e⟩:=(j.gr S).ix (kd:=.i64) (aE .i64) hlt;have w:am .i64 ((i:Int)+1)=((i+1:Nat):Int):=(by rw [wrap64]<;>omega);simp only [BZ,r0,r1,r7,r8,aq,hlt,d,e,encI,seval];refine step_ret (mk11_ok S.ok) ?_;rintro _ h' ⟨g,t,rfl,k⟩;cases t with
     | false=>
       simp only [BZ,r8,w,seval];refine m (i+1) _ _ (by omega) ⟨by omega,S.trans g,fun x a=>?_,by simp [ao,r0,r1,r7]⟩;rw [Xa hlt]at a;rcases List.mem_append.1 a with a|a
       . exact hall x a
       . cases List.mem_singleton.1 a;exact Classical.byContradiction fun p=>by have:=k.2 p;cases this
     | true=>
       simp only [BZ,ab,seval];exact⟨S.trans g,_,rfl,by simp only [X5,true_iff];exact fun h=>k.1 rfl (h _ (Xu hlt))⟩
   . simp only [BZ,ab,r7,r8,aq,hlt,seval];rw [Xx (by omega)]at hall;exact⟨S,_,rfl,⟨fun h=>by omega,fun h=>absurd hall h⟩⟩
 . exact⟨Xg _,Gr.refl f,fun x a=>(by simp at a),by simp [ao,ct,cP]⟩
theorem mkCf_ok(b:OZ a)(d:aH a 1 (encI .i64) v l)(f:l.length<=1000000):Ret zB 57 [v,.func (.func 58) #[] #[]] a fun r h'=>Gr a h'/\ ∃t,r=.bool t/\(t=true↔ ¬ ∀x∈l,qA x):=by
 have S:=Si b;refine erA (n:=9) (rs:=[.tmp 4]) e57 ?_;simp only [BZ,seval];refine step_ret (mkIdx_ok S.ok d f) ?_;intro v h ⟨g,z,e,hz⟩;replace S:=S.call g;subst e;by_cases c:0<=z
 . simp only [BZ,ab,c,seval];exact⟨S.gr,_,rfl,by rw [<-hz];simp [c]⟩
 . simp only [BZ,ab,c,seval];exact⟨S.gr,_,rfl,by rw [<-hz];simp [c]⟩
theorem mk1_ok(f:OZ a)(d:a.load b 0 1=some [.int .i64 N])(c:aH a 1 (encI .i64) v l)(i:l.length<=1000000):Ret zB 56 [v,ptrTo b] a fun r h'=>Gr a h'/\ ∃t,r=.bool t/\(t=true↔ ¬fP N l):=by
 have S:=Si f;by_cases e:(l.length:Int)=(N:Int)
 . have j:l.length=N:=(by omega);refine erA (n:=12) (rs:=[.tmp 3]) e56 ?_;simp only [BZ,c.lenq,d,e,seval];refine step_ret (mkCf_ok S.ok c i) ?_;intro v h ⟨g,t,k,ht⟩;replace S:=S.call g;subst k;simp only [BZ,ab,seval];exact⟨S.gr,_,rfl,ht.trans (not_congr ⟨fun h=>⟨j,h⟩,fun h=>h.2⟩)⟩
 . refine erA (n:=12) (rs:=[.tmp 3]) e56 ?_;simp only [BZ,ab,c.lenq,d,e,seval];exact⟨S.gr,_,rfl,by simp only [true_iff];exact fun h=>e (by have:=h.1;omega)⟩
theorem mkIdxR_ok(k:OZ a)(y:a.load b 0 1=some [.int .i64 N])(l:cS a m v n R)(p:n<=1000000)(A: ∀i,i<n->(R i).length<=1000000):Ret zB 118 [v,.func (.func 56) #[] #[ptrTo b]] a fun r h'=>Gr a h'/\ ∃z,r=.int .i64 z/\(0<=z↔ ¬ ∀i,i<n->fP N (R i)):=by
 have S:=Si k;refine erA (n:=19) (rs:=[.tmp 4]) e118 ?_;simp only [BZ,l.lenq,seval];refine aD (fun(i:Nat) d h=>i<=n/\Gr a h/\(∀j,j<i->fP N (R j))/\d 0=v/\d 1=.func (.func 56) #[] #[ptrTo b]/\d 7=.int .i64 n/\d 8=.int .i64 i) (fun i=>n-i) ?_ 0 _ _ ?_
 . clear S;intro i B d h ⟨hi,S,hall,r0,r1,r7,r8⟩;by_cases hlt:i<n
   . obtain⟨x,⟨q,o,e,f⟩,s,_⟩:=(l.gr S).row hlt;have C:=s.fl;have w:am .i64 ((i:Int)+1)=((i+1:Nat):Int):=(by rw [wrap64]<;>omega);simp only [BZ,r0,r1,r7,r8,aq,hlt,e,f,seval];refine step_ret (mk1_ok S.ok (S.load y) s (A i hlt)) ?_;rintro _ h' ⟨g,t,rfl,u⟩;cases t with
     | false=>
       simp only [BZ,r8,w,seval];refine B (i+1) _ _ (by omega) ⟨by omega,S.trans g,fun j c=>?_,by simp [ao,r0,r1,ah,r7]⟩;rcases Yl (Yy c)with c|rfl
       . exact hall j c
       . exact Classical.byContradiction fun p=>by have:=u.2 p;cases this
     | true=>
       simp only [BZ,ab,seval];exact⟨S.trans g,_,rfl,by simp only [X5,true_iff];exact fun h=>u.1 rfl (h _ hlt)⟩
   . simp only [BZ,ab,r7,r8,aq,hlt,seval];exact⟨S,_,rfl,⟨fun h=>by omega,fun h=>absurd (fun j c=>hall j (by omega)) h⟩⟩
 . exact⟨Xg _,Gr.refl k,fun j c=>absurd c (YN j),by simp [ao,ct,cP,ah]⟩
theorem mkCfR_ok(d:OZ a)(f:a.load b 0 1=some [.int .i64 N])(j:cS a m v n R)(k:n<=1000000)(l: ∀i,i<n->(R i).length<=1000000):Ret zB 60 [v,.func (.func 56) #[] #[ptrTo b]] a fun r h'=>Gr a h'/\ ∃t,r=.bool t/\(t=true↔ ¬ ∀i,i<n->fP N (R i)):=by
 have S:=Si d;refine erA (n:=9) (rs:=[.tmp 4]) e60 ?_;simp only [BZ,seval];refine step_ret (mkIdxR_ok S.ok f j k l) ?_;intro v h ⟨g,z,e,hz⟩;replace S:=S.call g;subst e;by_cases c:0<=z
 . simp only [BZ,ab,c,seval];exact⟨S.gr,_,rfl,by rw [<-hz];simp [c]⟩
 . simp only [BZ,ab,c,seval];exact⟨S.gr,_,rfl,by rw [<-hz];simp [c]⟩
theorem mk2_ok(p:OZ a){f:Nat}{j:Value}(q:a.load d 0 1=some [j])(s:a.load f 0 1=some [.func (.func 56) #[] #[ptrTo b]])(k:aH a 1 (encI .i64) j l)(u:a.load b 0 1=some [.int .i64 N])(o:cS a m v n R)(w:n<=1000000)(c:l.length=n)(x: ∀i,i<n->(R i).length<=1000000):Ret zB 59 [v,ptrTo d,ptrTo f] a fun r h'=>Gr a h'/\ ∃t,r=.bool t/\(t=true↔ ¬ ∀i,i<n->fP N (R i)):=by have S:=Si p;have y:=k.fl;subst c;refine erA (n:=15) (rs:=[.tmp 4]) e59 ?_;simp only [BZ,o.lenq,k.lenq,q,s,seval];refine step_ret (mkCfR_ok S.ok u o w x) ?_;intro v h ⟨g,t,e,ht⟩;replace S:=S.call g;subst e;simp only [BZ,ab,seval];exact⟨S.gr,_,rfl,ht⟩
def TabR(N:Nat)(l:List Int)(R Q:Nat->List Int):Prop:=gU N l/\(∀i,i<l.length->fP N (R i))/\ ∀i,i<l.length->fP N (Q i)
theorem B3{k:Hp}(ok:OZ k){mT mF:Nat}{U V:Value}(w:aH k 1 (encI .i64) U l)(X:cS k mT V l.length R)(Y:cS k mF W l.length Q)(n1:1<=N)(m:l.length<1000)(Z: ∀i,i<l.length->(R i).length<=10000)(hQ: ∀i,i<l.length->(Q i).length<=10000):Ret zB 17 [.int .i64 N,U,V,W] k fun r h'=>Gr k h'/\((TabR N l R Q/\TabAt h' k.n r N l R Q)\/(¬TabR N l R Q/\r=.pointer none)):=by
 have S:=Si ok;have c1: ¬(N:Int)<1:=by omega
 have fM:=w.fl;obtain⟨ma,mn,mc,rfl⟩:=w.form;refine erA (n:=40) (rs:=[.tmp 8]) e17 ?_;simp only [BZ,seval];refine ag (bK (by intro x e;cases e)) S ?_;clear S;intro h d S aa;simp only [ae]at S;simp only [BZ,if_false,seval];refine ag (bK (by intro x e;cases e)) S ?_;clear S;intro h f S ac;simp only [ae]at S;simp only [BZ,seval];refine ag ay S ?_;clear S;intro h E S ad;simp only [BZ,seval];refine au (aw S (i:=0) rfl ?_ ?_ ?_ ono) ?_
 . exact(by simp only [FA0])
 . exact(by exact jg)
 . exact Xb (lbt rfl)
 clear S;rintro h ⟨S,mo⟩;clear mo;simp only [LC,ae,lay,Xo,Xp,seval]at S;have p:=S.ld (b:=d) (o:=0) m2 rfl;have s:=S.ld (b:=f) (o:=0) m1 rfl;have B:=S.ld (b:=E) (o:=0) m0 rfl;simp only [BZ,p,s,c1,seval];refine ar (may_ok S.ok (w.gr S.gr) (by omega)) ?_;intro h g;replace S:=S.call g;by_cases C:gU N l;rotate_left
 . rw [decide_eq_false C];simp only [BZ,ab,seval];exact⟨S.gr,.inr fun h=>C h.1⟩
 rw [decide_eq_true C];simp only [BZ,seval];have p:=S.ld (b:=d) (o:=0) m2 rfl;have s:=S.ld (b:=f) (o:=0) m1 rfl;have B:=S.ld (b:=E) (o:=0) m0 rfl;refine step_ret (mk2_ok S.ok s B (w.gr S.gr) p (X.gr S.gr) (by omega) rfl (fun i u=>by have:=Z i u;omega)) ?_;intro v h ⟨g,t,e,ht⟩;replace S:=S.call g;subst e;cases t with
 | true=>
   simp only [BZ,ab,seval];exact⟨S.gr,.inr fun h=>ht.1 rfl h.2.1⟩
 |false=>
 have tR: ∀i,i<l.length->fP N (R i):=Classical.byContradiction fun F=>by have:=ht.2 F;cases this
 clear ht;simp only [BZ,seval];have p:=S.ld (b:=d) (o:=0) m2 rfl;have s:=S.ld (b:=f) (o:=0) m1 rfl;have B:=S.ld (b:=E) (o:=0) m0 rfl;refine step_ret (mk2_ok S.ok s B (w.gr S.gr) p (Y.gr S.gr) (by omega) rfl (fun i u=>by have:=hQ i u;omega)) ?_;intro v h ⟨g,t,e,ht⟩;replace S:=S.call g;subst e;cases t with
 | true=>
   simp only [BZ,ab,seval];exact⟨S.gr,.inr fun h=>ht.1 rfl h.2.2⟩
 |false=>
 have tQ: ∀i,i<l.length->fP N (Q i):=Classical.byContradiction fun F=>by have:=ht.2 F;cases this
 clear ht;have p:=S.ld (b:=d) (o:=0) m2 rfl;have s:=S.ld (b:=f) (o:=0) m1 rfl;simp only [BZ,seval];refine av (aB rfl) (q:=256) (ps:=[(0,6),(0,4),(0,2)]) (by kernel_rfl) ?_;simp only [BZ,cls,p,s,seval];refine cF (je S.ok (aE .i64) (w.gr S.gr) (by omega)) ?_;rintro v h ⟨g,a,nM⟩;have e41:leaves _ _ d=true:=aI g ((S.row (b:=d) m2).lt S.ok);have e51:leaves _ _ f=true:=aI g ((S.row (b:=f) m1).lt S.ok);have k1:=S.fr.n;have G:=fun c (j:c∈keys _ _)=>S.key_lt j;replace S:=S.call g;obtain⟨va,vn,vc,rfl⟩:=a.form;simp only [BZ,cls,seval];refine cF (tw S.ok (X.gr S.gr) m (fun i u=>by have:=Z i u;omega)) ?_;rintro v h ⟨g,D⟩;have e42:leaves _ _ d=true:=aI g ((S.row (b:=d) m2).lt S.ok);have e52:leaves _ _ f=true:=aI g ((S.row (b:=f) m1).lt S.ok);have k2:=S.fr.n;have H:=fun c (j:c∈keys _ _)=>S.key_lt j;replace S:=S.call g;replace a:=a.gr g;clear g;obtain⟨ta,tn,tc,rfl⟩:=D.form;simp only [BZ,cls,seval];refine cF (tw S.ok (Y.gr S.gr) m (fun i u=>by have:=hQ i u;omega)) ?_;rintro v h ⟨g,L2⟩;have e43:leaves _ _ d=true:=aI g ((S.row (b:=d) m2).lt S.ok);have e53:leaves _ _ f=true:=aI g ((S.row (b:=f) m1).lt S.ok);have k3:=S.fr.n;have I:=fun c (j:c∈keys _ _)=>S.key_lt j;replace S:=S.call g;replace a:=a.gr g;replace D:=D.gr g;clear g;obtain⟨fa,fn,fc,rfl⟩:=L2.form;simp only [BZ,cls,seval];have y:=S;replace S:=S.base;have q4:=(y.row (b:=d) m2).lt y.ok;have q5:=(y.row (b:=f) m1).lt y.ok;refine dR (bK (by intro x e;cases e)) S ?_;clear S;intro h b S af J;simp only [ae]at S;have K:d≠b:=by omega
 have L:f≠b:=by omega
 simp only [BZ,cls,ab,seval];refine⟨by simp only [aR,aZ,aM,bo,aP,ne_eq,not_false_eq_true,bj,bH,aQ,aO,bS,cq,az,Xl,ah,aG e41,aG e42,aG e43,aG e51,aG e52,aG e53,iu K,iu L,<-J,seval],?_⟩;have M:=S.fr;have z:=a.mo M (fun c j A=>by have:=nM c j;have:=G c A;omega);have O:=D.mo M (fun c A=>.inl (H c A));have P:=L2.mo M (fun c A=>.inl (I c A));have T:=S.row (b:=b) m0;replace S:=y.rebase S;exact⟨S.gr,.inl ⟨⟨C,tR,tQ⟩,⟨b,_,_,_,rfl,T,z,O.ll.low k2,P.ll.low k3,(S.own _ m0).1.elim (fun h=>h) (fun h=>h.elim),fun c j=>Xe k1 (nM c j)⟩⟩⟩
theorem make_ok(k:OZ a){c d e:Value}(o:aH a 1 (encI .i64) c l)(p:cS a m d l.length R)(s:cS a n e l.length Q)(t:1<=N)(u:N<=100)(f:gU N l)(h: ∀i,i<l.length->fP N (R i))(j: ∀i,i<l.length->fP N (Q i)):Ret zB 17 [.int .i64 N,c,d,e] a fun r h'=>Gr a h'/\TabAt h' a.n r N l R Q:=
 iz (B3 k o p s t (by have:=f.1;omega) (fun i b=>by have:=(h i b).1;omega) (fun i b=>by have:=(j i b).1;omega)) fun _ _ ⟨g,q⟩=>⟨g,q.elim (fun x=>x.2) fun x=>absurd ⟨f,h,j⟩ x.1⟩
theorem uA(w:OZ a)(t:TabAt a m p N l R Q)(j:l.length<1000)(x: ∀i,i<l.length->(R i).length<1000000)(y: ∀i,i<l.length->(Q i).length<1000000):Ret zB 16 [p] a fun r h'=>Gr a h'/\ ∃e f k,r=.tuple #[e,f]/\LLD h' a.n k e l.length R/\LLD h' k h'.n f l.length Q/\a.n<=k/\k<=h'.n:=by
 have S:=Si w;obtain⟨b,F,e,f,rfl,c,_,z,A,_⟩:=t.ex;have B:=c.load1 (o:=2) rfl;refine erA (n:=16) (rs:=[.tmp 2,.tmp 3]) e16 ?_;simp only [BZ,seval];refine av (aB rfl) (q:=0) (ps:=[(4,8)]) (by kernel_rfl) ?_;simp only [BZ,cls,B,seval];refine cF (tw S.ok (z.gr S.gr) j x) ?_;rintro v h ⟨g,d⟩;have G:=S.fr.n;have s:leaves _ _ b=true:=aI g (c.lt S.ok);replace S:=S.call g;replace c:=c.gr g;clear g;obtain⟨H,I,J,rfl⟩:=d.form;have C:=c.load1 (o:=3) rfl;simp only [BZ,cls,C,seval];refine cF (tw S.ok (A.gr S.gr) j y) ?_;rintro v h ⟨g,u⟩;have D:=S.fr.n;have E:=S.ok;replace S:=S.call g;replace d:=d.gr g;obtain⟨K,L,M,rfl⟩:=u.form;simp only [BZ,cls,ab,seval];refine⟨by simp only [aR,aZ,aM,bo,aP,ne_eq,not_false_eq_true,bj,bH,aQ,aO,bS,cq,az,Xl,ah,aG s,aJ s,seval],?_⟩;exact⟨S.gr,_,_,_,rfl,d,u,D,g.n⟩
def byB(n:Nat)(B:Nat->Nat):Bs:=(zM n).map fun j=>UInt8.ofNat (B j)
theorem A7(h: ∀j,B j<256):ir n B=bI (byB n B):=by unfold ir bI byB;rw [Yb];refine XJ fun j _=>?_;simp [YB (h j)]
def aW(l:List (List Int))(i:Nat):List Int:=l.getD i []
def TabM(h:Hp)(p:Value)(N:Nat)(T:Tab):Prop:=(∃m,TabAt h m p N T.l (aW T.to) (aW T.fr))/\TabL N T
theorem TabM.gr{h h':Hp}{p:Value}{N:Nat}{T:Tab}(t:TabM h p N T)(g:Gr h h'):TabM h' p N T:=⟨by obtain⟨m,x⟩:=t.1;exact⟨m,x.gr g⟩,t.2⟩
def lU(h:Hp)(e f:Value)(c:Gra)(m:List Int)(F:Bs):Prop:= ∃k d g b a B,jF h k e m/\m.length=c.nodes/\f=ptrTo d/\gD m+1=((b:Nat):Int)/\jm h d g b c.arcs.length a B/\F=byB (b*a) B/\(∀x∈m,0<=x/\x<256)/\ ¬mS m/\a=(c.arcs.length+7)/8/\Tz c.arcs.length a B
theorem lU.gr{h h':Hp}{n o:Value}{p:Gra}{m:List Int}{F:Bs}(c:lU h n o p m F)(g:Gr h h'):lU h' n o p m F:=by obtain⟨k,q,r,j,l,B,a,b,c,d,e,f,i⟩:=c;exact⟨k,q,r,j,l,B,a.gr g,b,c,d,e.gr g,f,i⟩
def TabX(h:Hp)(p:Value)(N:Nat):Option Tab->Prop
 |none=>p=.pointer none|some T=>TabM h p N T
def CelX(h:Hp)(a b:Value)(c:Gra):Option (List Int×Bs)->Prop
 |none=>a=.pointer none/\b=.pointer none|some (m,F)=>lU h a b c m F
theorem TabX.gr{h h':Hp}{p:Value}{N:Nat}{T:Option Tab}(t:TabX h p N T)(g:Gr h h'):TabX h' p N T:=by
 cases T with
 |none=>exact t|some T=>exact TabM.gr t g
theorem CelX.gr{h h':Hp}{a b:Value}{d:Gra}{C:Option (List Int×Bs)}(t:CelX h a b d C)(g:Gr h h'):CelX h' a b d C:=by
 cases C with
 |none=>exact t|some c=>exact lU.gr t g
def ImC(h:Hp)(a b c d:Value)(I:Img):Prop:=(∃e,cI h e a I.g)/\jZ I.g/\TabX h b I.g.nodes I.T/\CelX h c d I.g I.C
theorem ImC.gr{h h':Hp}{a b c d:Value}{I:Img}(i:ImC h a b c d I)(g:Gr h h'):ImC h' a b c d I:=⟨by obtain⟨e,n⟩:=i.1;exact⟨e,n.gr g⟩,i.2.1,i.2.2.1.gr g,i.2.2.2.gr g⟩
def me(h:Hp)(b:Nat)(I:Img):Prop:= ∃a c d e,Row h b [a,c,d,e] 1/\ImC h a c d e I
theorem me.gr{h h':Hp}{b:Nat}{I:Img}(i:me h b I)(g:Gr h h'):me h' b I:=by obtain⟨a,d,e,f,r,c⟩:=i;exact⟨a,d,e,f,r.gr g,c.gr g⟩
theorem TabM.ptr(t:TabM h p N T): ∃b,p=ptrTo b:=by obtain⟨⟨m,t⟩,_⟩:=t;obtain⟨b,_,_,_,e,_⟩:=t.ex;exact⟨b,e⟩
theorem lU.ptr{a d:Value}{i:Gra}{m:List Int}{F:Bs}(c:lU h a d i m F): ∃b c,a=ptrTo b/\d=ptrTo c:=by obtain⟨k,j,n,f,g,B,⟨b,_,e,_⟩,_,l,_⟩:=c;exact⟨b,j,e,l⟩
theorem cI.ptr{a:Nat}{c:Gra}(n:cI h a p c): ∃b,p=ptrTo b:=by obtain⟨b,_,_,_,_,_,e,_⟩:=n.ex;exact⟨b,e⟩
theorem fits_im(i:OZ a){d e f:Value}{b:Gra}{m:List Int}{F:Bs}(l:cI a j d b)(n:1<=b.nodes)(s:b.nodes<1000000)(c:lU a e f b m F):cj zB 72 [d,e,f] a (.bool true):=by obtain⟨k,t,u,g,h,B,o,p,rfl,q,r,_⟩:=c;have:=D0 i l (.inr ⟨⟨k,o⟩,rfl⟩) r.bits n (by omega);simpa [p,q]using this
theorem CK{f:Hp}(G:OZ f)(i:me f b I):cj zB 22 [ptrTo b] f (.bool true):=by
 have S:=Si G;obtain⟨U,H,J,K,r,⟨V,x⟩,y,j,a⟩:=i;obtain⟨W,rfl⟩:=x.ptr;have L:=r.lt G;have c:=r.load1 (o:=0) rfl;have d:=r.load1 (o:=1) rfl;have l:=r.load1 (o:=2) rfl;have s:=r.load1 (o:=3) rfl;have M:=y.n1;have X:=y.n2;cases N:I.T with
 | none=>
   rw [N]at j;have j:H=.pointer none:=j;subst j;cases z:I.C with
   | none=>
     rw [z]at a;obtain⟨rfl,rfl⟩:=a;refine erA (n:=72) (rs:=[.tmp 2]) Za ?_;simp only [BZ,c,seval];refine av (aB rfl) (q:=0) (ps:=[(10,14)]) (by kernel_rfl) ?_;simp only [BZ,cls,d,l,s,seval];refine⟨by simp only [aR,aZ,aM,bo,aP,ne_eq,not_false_eq_true,bj,bH,aQ,aO,bS,cq,az,Xl,ah,cC,seval];rfl,?_⟩;refine av (aB rfl) (q:=0) (ps:=[]) (by kernel_rfl) ?_;simp only [BZ,cls,ab,seval];exact S.gr
   | some D=>
     obtain⟨m,F⟩:=D;rw [z]at a;have a:lU f J K I.g m F:=a;obtain⟨Q,R,rfl,rfl⟩:=a.ptr;refine erA (n:=72) (rs:=[.tmp 2]) Za ?_;simp only [BZ,c,seval];refine av (aB rfl) (q:=0) (ps:=[(10,14)]) (by kernel_rfl) ?_;simp only [BZ,cls,d,l,seval];refine⟨by simp only [aR,aZ,aM,bo,aP,ne_eq,not_false_eq_true,bj,bH,aQ,aO,bS,cq,az,Xl,ah,cC,seval];rfl,?_⟩;refine av (aB rfl) (q:=0) (ps:=[]) (by kernel_rfl) ?_;simp only [BZ,cls,c,l,s,seval];refine da (fits_im S.ok x M (by omega) a) ?_;intro h g;have t:=aI g L;replace S:=S.call g;simp only [BZ,cls,ab,seval];exact S.gr
 | some T=>
   rw [N]at j;have j:TabM f H I.g.nodes T:=j;obtain⟨Y,rfl⟩:=j.ptr;obtain⟨⟨mt,B⟩,O⟩:=j;have t1:=O.l1;have t2:=O.l2;have P:(0:Int)<(T.l.length:Int):=(by omega);have q: ∀{u w C:Hp},Gr f u->Gr u w->Gr w C->leaves f u b=true/\leaves u w b=true/\leaves w C b=true:=fun e k p=>(by have:=e.n;have:=k.n;exact⟨aI e L,aI k (by omega),aI p (by omega)⟩);cases z:I.C with
   | none=>
     rw [z]at a;obtain⟨rfl,rfl⟩:=a;refine erA (n:=72) (rs:=[.tmp 2]) Za ?_;simp only [BZ,c,seval];refine av (aB rfl) (q:=0) (ps:=[(10,14)]) (by kernel_rfl) ?_;simp only [BZ,cls,d,seval];refine da (xH S.ok B) ?_;intro u e;replace S:=S.call e;simp only [BZ,cls,e.load c,seval];refine da (dm S.ok (x.gr S.gr)) ?_;intro w k;replace S:=S.call k;simp only [BZ,cls,S.gr.load d,seval];refine cF (qt S.ok (B.gr S.gr) (by omega)) ?_;rintro v C ⟨p,E,_⟩;obtain⟨t,A,e3⟩:=q e k p;replace S:=S.call p;simp only [BZ,cls,E.lenq,P,S.gr.load c,S.gr.load d,S.gr.load l,S.gr.load s,seval];refine⟨by simp only [aR,aZ,aM,bo,aP,ne_eq,not_false_eq_true,bj,bH,aQ,aO,bS,cq,az,Xl,ah,cC,aJ t,aG t,aJ A,aG A,aJ e3,aG e3,seval],?_⟩;refine av (aB rfl) (q:=0) (ps:=[]) (by kernel_rfl) ?_;simp only [BZ,cls,ab,S.gr.load c,S.gr.load d,S.gr.load l,S.gr.load s,seval];exact S.gr
   | some D=>
     obtain⟨m,F⟩:=D;rw [z]at a;have a:lU f J K I.g m F:=a;obtain⟨Q,R,rfl,rfl⟩:=a.ptr;refine erA (n:=72) (rs:=[.tmp 2]) Za ?_;simp only [BZ,c,seval];refine av (aB rfl) (q:=0) (ps:=[(10,14)]) (by kernel_rfl) ?_;simp only [BZ,cls,d,seval];refine da (xH S.ok B) ?_;intro u e;replace S:=S.call e;simp only [BZ,cls,e.load c,seval];refine da (dm S.ok (x.gr S.gr)) ?_;intro w k;replace S:=S.call k;simp only [BZ,cls,S.gr.load d,seval];refine cF (qt S.ok (B.gr S.gr) (by omega)) ?_;rintro v C ⟨p,E,_⟩;obtain⟨t,A,e3⟩:=q e k p;replace S:=S.call p;simp only [BZ,cls,E.lenq,P,S.gr.load c,S.gr.load d,S.gr.load l,S.gr.load s,seval];refine⟨by simp only [aR,aZ,aM,bo,aP,ne_eq,not_false_eq_true,bj,bH,aQ,aO,bS,cq,az,Xl,ah,cC,aJ t,aG t,aJ A,aG A,aJ e3,aG e3,seval],?_⟩;refine av (aB rfl) (q:=0) (ps:=[]) (by kernel_rfl) ?_;simp only [BZ,cls,S.gr.load c,S.gr.load d,S.gr.load l,S.gr.load s,seval];have Z:=S.gr.n;refine da (fits_im S.ok (x.gr S.gr) M (by omega) (a.gr S.gr)) ?_;intro h g;have e4:=aI g (show b<_ by omega);replace S:=S.call g;simp only [BZ,cls,ab,seval];exact S.gr
theorem vU{c:Hp}(h:OZ c){g a:Nat}(b:jm c g e rows d a B):cj zB 29 [ptrTo g] c (sv (byB (rows*a) B)):=by
 have S:=Si h;have i:=b.r.load1 (o:=3) rfl;have f:(byB (rows*a) B).length=rows*a:=by simp [byB]
 have j:BySl c (.slice (some ⟨e,0,none⟩) (rows*a) (rows*a)) (byB (rows*a) B):=.inr ⟨e,0,none,rows*a,by rw [f],by rw [f];exact XB _,by
  rw [f,byF,<-A7 b.lt,b.b.load (by rw [pW];omega),Xm,Xr,Xx (by rw [pW];omega)]⟩
 refine erA (n:=10) (rs:=[.tmp 2]) e29 ?_;simp only [BZ,aV,ax,ab,i,uU j,seval];exact S.gr
theorem graphS_ok{B:Hp}(X:OZ B)(i:me B b I):Ret zB 73 [ptrTo b] B fun r h'=>Gr B h'/\r=sv (ji I.g):=by
 have S:=Si X;obtain⟨pn,pt,pc,pf,r,⟨nb,G⟩,l,_,_⟩:=i;obtain⟨bn,rfl⟩:=G.ptr;have Y:=r.load1 (o:=0) rfl;obtain⟨d,_,_⟩:=I;simp only []at G l;have n2:=l.n2;have O:=l.many;have lX:=l.lX;have lY:=l.lY;refine erA (n:=65) (rs:=[.tmp 2]) e73 ?_;simp only [BZ];refine step_ret (qF S) ?_;rintro _ h ⟨t,rfl,S⟩;simp only [BZ,S.gr.load Y,seval];have kb:=S.key_lt (b:=t) (by simp [keys]);refine step_ret (AZ S.ok l (G.gr S.gr)) ?_;rintro _ H ⟨g,J,K,D,rfl,A,Z,_⟩;replace S:=S.call g;have fx:=A.X.fl;have fy:=A.Y.fl;have fa:=A.A.fl;have S0:=S;replace S:=S.base;have Q: ∀{v:Hp},Mo (· ∈[t]) H v->cL v J K D d:=fun f=>A.mo f (fun c hc e=>by simp only [XM]at e;have:=Z c hc;omega);simp only [BZ,gc];refine ag ay S ?_;clear S;intro h u S R;simp only [BZ,seval];refine au (stA S (i:=0) t37.2.1 (by simp only [ae,X4,Yd,fx.2.1,fy.2.1,fa.2.1,Xl];rfl)) ?_;clear S;rintro h ⟨S,_⟩;simp only [LC,ae,lay,Xo,Xp,seval]at S;have wn:=bJ (k:=.u32) rfl (n:=d.nodes) (by simp only [pw];omega);have wa:=bJ (k:=.u32) rfl (n:=d.arcs.length) (by simp only [pw];omega);simp only [BZ,aV,ax,a9,A.A.lenq,wn,wa,S.ld (b:=u) (o:=0) m0 rfl,S.ld (b:=u) (o:=3) m0 rfl,seval];refine ag (bD (by exact t175.1) (by exact YM) (by decide) (by rfl)) S ?_;clear S;intro h T S x;simp only [LC,bA,bN,ae,Xs,Xd,Xr,Xy,seval]at S;obtain⟨S,y,z⟩:=S.bsl (kd:=.u32) (xs:=[(d.nodes:Int),(d.arcs.length:Int)]);simp only [BZ,seval];refine step_ret (ur S (i:=1) (j:=0) rfl rfl y z (by simp)) ?_;clear S y z;rintro _ h ⟨m,S⟩;simp only [LC,zO,Xi]at S;rw [iQ (by omega),iQ (by omega)]at S;try rw [YP]at S
 simp only [BZ,S.ld (b:=u) (o:=0) m0 rfl,seval];have lz:(d.X.zip d.Y).length=d.nodes:=by rw [List.length_zip];omega
 have lk: ∀k,((d.X.zip d.Y).take k).length<=300:=fun k=>by rw [XC];omega
 refine aD (fun(k:Nat) p v=>k<=d.nodes/\ ∃m,St (· ∈keys [(t,Ob.row [.slice none 0 0] 1)] [(.slice none 0 0,1,bI [])]) H v [(u,.row [.int .i64 d.nodes,J,K,D] 1),(t,.row [m] 1)] [(m,1,bI (aY 4 d.nodes++aY 4 d.arcs.length++((d.X.zip d.Y).take k).flatMap xyB))]/\p 3=ptrTo t/\p 4=ptrTo u/\p 25=.int .i64 d.nodes/\p 26=.int .i64 k) (fun k=>d.nodes-k) ?_ 0 _ _ ⟨Xg _,m,by simpa using S,by simp [ao,ah]⟩;clear S;intro k E p v ⟨hk,m,S,r3,r4,r25,r26⟩;have w:am .i64 ((k:Int)+1)=((k+1:Nat):Int):=by rw [wrap64]<;>omega
 have s:=Q S.fr;by_cases hlt:k<d.nodes
 . obtain⟨c1,o1,L,F⟩:=s.X.ix (kd:=.i64) (aE .i64) (i:=k) (by omega);obtain⟨c2,o2,i2,d2⟩:=s.Y.ix (kd:=.i64) (aE .i64) (i:=k) (by omega);have M:k<(d.X.zip d.Y).length:=(by omega);have C:(d.X.zip d.Y).take (k+1)=(d.X.zip d.Y).take k++[(d.X[k],d.Y[k])]:=(by rw [Xa M,List.getElem_zip]);have tb:(d.X.zip d.Y).take (k+1)=(d.X.zip d.Y).take k++[(d.X[k],d.Y[k])]:=C;have bl:=lk k;simp only [BZ,r25,r26,aq,hlt,seval];refine av (aB rfl) (q:=2048) (ps:=[]) (by kernel_rfl) ?_;simp only [BZ,cls,r3,r4,L,i2,F,d2,encI,S.ld (b:=u) (o:=1) m0 rfl,S.ld (b:=u) (o:=2) m0 rfl,seval];refine dR (bD (by exact t23.1) (by exact X8) (by decide) (by rfl)) S ?_;clear S;intro h T S x U;simp only [LC,bA,bN,ae,Xs,Xd,Xr,Xy,seval]at S;obtain⟨S,y,z⟩:=S.bsl (kd:=.i64) (xs:=[d.X[k],d.Y[k]]);simp only [BZ,cls,seval];refine cF (Ao S (i:=1) (j:=0) rfl rfl y z (by rw [Xh,Xh,bq,bq,eH rV];simp;omega)) ?_;clear S y z;rintro _ h ⟨m,S⟩;simp only [LC,zO,Xi]at S;rw [XF,show((d.X.zip d.Y).take k).flatMap xyB++(aY 8 (u64 d.X[k])++aY 8 (u64 d.Y[k]))=((d.X.zip d.Y).take (k+1)).flatMap xyB by rw [C,Xz];simp [xyB,pZ]]at S;simp only [BZ,r26,w,seval];exact E (k+1) _ _ (by omega) ⟨by omega,m,S,by simp [ao,r3,r4,r25]⟩
 . have:k=d.nodes:=(by omega);subst this;rw [Xx (by omega)]at S;generalize V:aY 4 d.nodes++aY 4 d.arcs.length++(d.X.zip d.Y).flatMap xyB=P at S;have lP:P.length<=5000:=(by rw [<-V,Xh,Xh,bq,bq,eH rV,lz];omega);simp only [BZ,r4,r25,r26,aq,hlt,A.A.lenq,S.ld (b:=u) (o:=3) m0 rfl,seval];refine aD (fun(k:Nat) p v=>k<=d.arcs.length/\ ∃m,St (· ∈keys [(t,Ob.row [.slice none 0 0] 1)] [(.slice none 0 0,1,bI [])]) H v [(u,.row [.int .i64 d.nodes,J,K,D] 1),(t,.row [m] 1)] [(m,1,bI (P++(d.arcs.take k).flatMap n8))]/\p 3=ptrTo t/\p 44=D/\p 45=.int .i64 d.arcs.length/\p 46=.int .i64 k) (fun k=>d.arcs.length-k) ?_ 0 _ _ ⟨Xg _,m,by simpa using S,by simp [ao,r3]⟩;clear S s r3 r4 r25 r26 E w;intro k E p v ⟨hk,m,S,r3,r44,r45,r46⟩;have w:am .i64 ((k:Int)+1)=((k+1:Nat):Int):=(by rw [wrap64]<;>omega);have s:=Q S.fr;by_cases hlt:k<d.arcs.length
   . obtain⟨c1,o1,L,F⟩:=s.A.ix (kd:=.i64) dD hlt;have ha:=l.arcs d.arcs[k] (Xu hlt);have C:d.arcs.take (k+1)=d.arcs.take k++[d.arcs[k]]:=Xa hlt;have bl:(d.arcs.take k).length<=400:=(by rw [XC];omega);generalize d.arcs[k]=a at F ha C;have w1:=bJ (k:=.u32) rfl (n:=a.s) (by simp only [pw];omega);have w2:=bJ (k:=.u32) rfl (n:=a.t) (by simp only [pw];omega);have w3:=bJ (k:=.u32) rfl (n:=a.w) (by simp only [pw];omega);simp only [BZ,r44,r45,r46,aq,hlt,L,F,cR,seval];refine ag ay S ?_;clear S;intro h N S W;simp only [BZ,seval];refine au (stA S (i:=0) t81.2.1) ?_;clear S;rintro h ⟨S,mo⟩;clear mo;simp only [LC,ae,lay,Xo,Xp,seval]at S;simp only [BZ,aV,ax,a9,r3,w1,w2,w3,S.ld (b:=N) (o:=0) m0 rfl,S.ld (b:=N) (o:=1) m0 rfl,S.ld (b:=N) (o:=2) m0 rfl,seval];refine ag (bD (by exact t175.1) (by exact YM) (by decide) (by rfl)) S ?_;clear S;intro h T S x;simp only [LC,bA,bN,ae,Xs,Xd,Xr,Xy,seval]at S;obtain⟨S,y,z⟩:=S.bsl (kd:=.u32) (xs:=[(a.s:Int),(a.t:Int),(a.w:Int)]);simp only [BZ,seval];refine step_ret (ur S (i:=2) (j:=0) rfl rfl y z (by rw [Xh,eH uE];simp;omega)) ?_;clear S y z;rintro _ h ⟨m,S⟩;simp only [LC,zO,Xi]at S;rw [iQ (by omega),iQ (by omega),iQ (by omega),XF,show(d.arcs.take k).flatMap n8++(aY 4 a.s++(aY 4 a.t++aY 4 a.w))=(d.arcs.take (k+1)).flatMap n8 by rw [C,Xz];simp [n8]]at S;simp only [BZ,r46,w,seval];exact E (k+1) _ _ (by omega) ⟨by omega,m,S.drop1,by simp [ao,r3,r44,r45]⟩
   . have:k=d.arcs.length:=(by omega);subst this;rw [XE]at S;have gw:=(S.gown _ m0).1;simp only [BZ,r3,r45,r46,aq,hlt,seval];refine ar (nj S.ok (S.ld (b:=t) (o:=0) m1 rfl) gw) ?_;intro h g;replace S:=S0.rebase (S.call g);simp only [BZ,ab,seval];exact⟨S.gr,by rw [<-V];unfold ji;simp only [XF]⟩
theorem Dk(d:OZ a){m:List Int}(c:jF a k p m)(e:m.length<1000000):Ret zB 28 [p] a fun r h'=>Gr a h'/\aH h' 1 (encI .i64) r m/\ ∀c,aA r c->a.n<=c:=by have S:=Si d;obtain⟨b,v,rfl,r,s,_,_⟩:=c;have f:=r.load1 (o:=0) rfl;refine erA (n:=10) (rs:=[.tmp 2]) e28 ?_;simp only [BZ,f,seval];refine step_ret (je S.ok (aE .i64) s e) ?_;intro v h ⟨g,sl,q⟩;replace S:=S.call g;simp only [BZ,ab,seval];exact⟨S.gr,sl,q⟩
theorem B4{l m:List (List Int)}(h:l.length=m.length)(c:k<l.length):(mix l m).take (2*(k+1))=(mix l m).take (2*k)++[l[k],m[k]'(h▸c)]:=by
 induction l generalizing m k with
 |nil=>simp at c| cons a l d=>
   cases m with
   |nil=>simp at h| cons b m=>
     cases k with
     |zero=>simp [mix]| succ k=>
       have:=d (m:=m) (by simpa using h) (k:=k) (by simpa using c);rw [show 2*(k+1+1)=2*(k+1)+2 by omega,show 2*(k+1)=2*k+2 by omega]at*
       simp only [mix,XA,List.getElem_cons_succ,YI];rw [this]
theorem rows_len(l:List (List Int))(h: ∀r∈l,r.length=N):(l.flatMap iV).length=8*N*l.length:=vZ l fun r a=>sG (h r a)
theorem LLD.rd(r:LLD h m k v n R)(t:i<n)(f:Mo M h h')(l: ∀b,M b->b<m\/k<=b):
 ∃w c o,iC (some 1) v (.int .i64 (i:Nat))=some (.pointer (some ⟨c,o,none⟩))/\h'.load c o 1=some [w]/\aH h' 1 (encI .i64) w (R i)/\ ∀c,aA w c->m<=c/\c<k:=by
 obtain⟨e,a,b,c,d,_⟩:=r.mo f l;obtain⟨q,o,p,s⟩:=a.ix (kd:=.i64) sF (i:=i) (by omega);have g:e[i]? =some e[i]:=Xj (by omega);exact⟨e[i],q,o,p,s,(d i _ g).1.1,fun x j=>⟨((d i _ g).2 x j).1,((d i _ g).2 x j).2.1⟩⟩
theorem marksS_ok{v:Hp}(ok:OZ v)(hT:I.T=some T)(i:me v b I):Ret zB 74 [ptrTo b] v fun r h'=>Gr v h'/\r=sv (qk T):=by
 have S:=Si ok;obtain⟨pn,pt,pc,pf,r,_,L,B,_⟩:=i;rw [hT]at B;have B:TabM v pt I.g.nodes T:=B;obtain⟨bt,rfl⟩:=B.ptr;obtain⟨⟨mt,Y⟩,t⟩:=B;have n2:=L.n2;have Z:=r.load1 (o:=1) rfl;have t1:=t.l1;have t2:=t.l2;have t3:=t.to;have t4:=t.fr;have M: ∀{i:Nat},(h:i<T.l.length)->aW T.to i=T.to[i]/\aW T.fr i=T.fr[i]:=fun {i} h=>by unfold aW;simp [Xf,show i<T.to.length by omega,show i<T.fr.length by omega]
 have N: ∀i,i<T.l.length->(aW T.to i).length=I.g.nodes/\(aW T.fr i).length=I.g.nodes:=fun i h=>by rw [(M h).1,(M h).2];exact⟨(t.rTo _ (Xu _)).1,(t.rFr _ (Xu _)).1⟩
 refine erA (n:=62) (rs:=[.tmp 2]) e74 ?_;simp only [BZ];refine step_ret (qF S) ?_;rintro _ h ⟨q,rfl,S⟩;simp only [BZ,S.gr.load Z,seval];have kb:=S.key_lt (b:=q) (by simp [keys]);refine step_ret (qt S.ok (Y.gr S.gr) (by omega)) ?_;rintro O Q ⟨g,H,hM⟩;replace S:=S.call g;have R:=S;replace S:=S.base;have gB:=R.gr;have U: ∀{s:Hp},Mo (· ∈[q]) Q s->aH s 1 (encI .i64) O T.l:=fun f=>H.mo f (fun c d e=>by simp only [XM]at e;have:=hM c d;omega);have w0:=bJ (k:=.u8) rfl (n:=T.l.length) (by simp only [pw];omega);simp only [BZ,aV,ax,a9,H.lenq,w0,seval];refine ag (bD (by exact t22.1) (by exact Yt) (by decide) (by rfl)) S ?_;clear S;intro h bs S C;simp only [LC,bA,bN,ae,Xs,Xd,Xr,Xy,seval]at S;obtain⟨S,D,E⟩:=S.bsl (kd:=.u8) (xs:=[(T.l.length:Int)]);simp only [BZ,seval];refine step_ret (zC S (i:=0) (j:=0) rfl rfl D E (by simp)) ?_;clear S D E;rintro _ h ⟨p,S⟩;simp only [LC,zO,Xi]at S;rw [iQ (by omega)]at S;try rw [YP]at S
 simp only [BZ,H.lenq,seval];refine aD (fun(k:Nat) a s=>k<=T.l.length/\ ∃p,St (· ∈keys [(q,Ob.row [.slice none 0 0] 1)] [(.slice none 0 0,1,bI [])]) Q s [(q,.row [p] 1)] [(p,1,bI (aY 1 T.l.length++(T.l.take k).flatMap m8))]/\a 0=ptrTo b/\a 3=ptrTo q/\a 4=O/\a 22=O/\a 23=.int .i64 T.l.length/\a 24=.int .i64 k) (fun k=>T.l.length-k) ?_ 0 _ _ ⟨Xg _,p,by simpa using S,by simp [ao,ct,ah]⟩;clear S;intro k J a s ⟨hk,p,S,r0,r3,r4,r22,r23,r24⟩;have w:am .i64 ((k:Int)+1)=((k+1:Nat):Int):=by rw [wrap64]<;>omega
 by_cases hlt:k<T.l.length
 . obtain⟨c1,o1,z,y⟩:=(U S.fr).ix (kd:=.i64) (aE .i64) hlt;have hx:=t.rl _ (Xu hlt);have tk:T.l.take (k+1)=T.l.take k++[T.l[k]]:=Xa hlt;have bl:(T.l.take k).length<=16:=(by rw [XC];omega);generalize T.l[k]=x at y hx tk;obtain⟨x,rfl⟩:=X2 hx.1;have wx:=bJ (k:=.u32) rfl (n:=x) (by simp only [pw];omega);simp only [BZ,aV,ax,a9,r3,r22,r23,r24,aq,hlt,z,y,encI,wx,seval];refine ag (bD (by exact t175.1) (by exact YM) (by decide) (by rfl)) S ?_;clear S;intro h bs S C;simp only [LC,bA,bN,ae,Xs,Xd,Xr,Xy,seval]at S;obtain⟨S,D,E⟩:=S.bsl (kd:=.u32) (xs:=[(x:Int)]);simp only [BZ,seval];refine step_ret (ur S (i:=0) (j:=0) rfl rfl D E (by rw [Xh,bq,eH qM];simp;omega)) ?_;clear S D E;rintro _ h ⟨p,S⟩;simp only [LC,zO,Xi]at S;rw [iQ (by omega),XF,show(T.l.take k).flatMap m8++aY 4 x=(T.l.take (k+1)).flatMap m8 by rw [tk,Xz];simp [m8]]at S;simp only [BZ,r24,w,seval];exact J (k+1) _ _ (by omega) ⟨by omega,p,S,by simp [ao,r0,r3,r4,r22,r23]⟩
 . have:k=T.l.length:=(by omega);subst this;rw [XE]at S;generalize hP:aY 1 T.l.length++T.l.flatMap m8=P at S;have lP:P.length<=100:=(by rw [<-hP,Xh,bq,eH qM];omega);have F: ∀{s:Hp},Mo (· ∈[q]) Q s->Gr v s:=fun f=>(gB.fr.trans f (fun c d=>by simp only [XM]at d;subst d;exact R.key_own (by simp [keys])|>.elim .inr .inl):Mo NoM v _).gr;have aa:=S.fr.n;simp only [BZ,r0,r23,r24,aq,hlt,(F S.fr).load Z,seval];refine step_ret (uA S.ok (Y.gr (F S.fr)) (by omega) (fun i h=>by have:=N i h;omega) (fun i h=>by have:=N i h;omega)) ?_;rintro _ hC ⟨g,vT,vF,kk,rfl,DT,DF,y1,y2⟩;have K: ∀c∈keys [(q,Ob.row [p] 1)] [(p,1,bI P)],c<_:=fun c d=>S.key_lt d;replace S:=R.rebase (S.call g);have S1:=S;replace S:=S.base;have LT: ∀k,((mix T.to T.fr).take k).length<=32:=fun k=>(by rw [XC,uu (by omega)];omega);have LM: ∀k,∀r∈(mix T.to T.fr).take k,r.length=I.g.nodes:=fun k r hr=>(Ak (List.mem_of_mem_take hr)).elim (fun h=>(t.rTo r h).1) (fun h=>(t.rFr r h).1);obtain⟨ta,tn,tc,eT⟩:=DT.form;obtain⟨fa,fn,fc,eF⟩:=DF.form;simp only [BZ,r4,H.lenq,seval];refine aD (fun(k:Nat) a s=>k<=T.l.length/\ ∃V,St (· ∈keys [(q,Ob.row [p] 1)] [(p,1,bI P)]) hC s [(q,.row [V] 1)] [(V,1,bI (P++((mix T.to T.fr).take (2*k)).flatMap iV))]/\a 3=ptrTo q/\a 7=vT/\a 8=vF/\a 43=.int .i64 T.l.length/\a 44=.int .i64 k) (fun k=>T.l.length-k) ?_ 0 _ _ ⟨Xg _,p,by simpa using S,by simp [ao,r3]⟩;clear S r0 r3 r4 r22 r23 r24 J w hlt hk;intro k J a s ⟨hk,V,S,r3,r7,r8,r43,r44⟩;have w:am .i64 ((k:Int)+1)=((k+1:Nat):Int):=(by rw [wrap64]<;>omega);by_cases hlt:k<T.l.length
   . obtain⟨g1,g2⟩:=M hlt;obtain⟨q1,q2⟩:=N k hlt;have mt:=B4 (l:=T.to) (m:=T.fr) (by omega) (k:=k) (by omega);rw [<-g1,<-g2]at mt;have l0:=LT (2*k);have lr:=rows_len _ (LM (2*k));have l8:8*I.g.nodes*((mix T.to T.fr).take (2*k)).length<=8*300*32:=YV (by omega) l0;obtain⟨u,c1,o1,z,y,G,A⟩:=DT.rd hlt S.fr (fun b W=>.inl (K b W));simp only [BZ,r3,r7,r43,r44,aq,hlt,z,y,seval];refine step_ret (Ao S (i:=0) (j:=0) rfl rfl G (fun c d X=>?_) (by rw [Xh,lr];omega)) ?_
     . rcases S.key_own X with h|h
       . have:=A c d;omega
       . have:=K c h;have:=A c d;omega
     clear S G A z y;rintro _ h ⟨v3,S⟩;simp only [LC,zO,Xi]at S;obtain⟨u2,c1,o1,z,y,G,A⟩:=DF.rd hlt S.fr (fun b W=>.inl (Xq (K b W) y1));simp only [BZ,r3,r8,z,y,seval];refine step_ret (Ao S (i:=0) (j:=0) rfl rfl G (fun c d X=>?_) (by rw [Xh,Xh,lr,show(fun x=>aY 8 (u64 x))=pZ from rfl,eH sq];omega)) ?_
     . rcases S.key_own X with h|h
       . have:=A c d;omega
       . have:=K c h;have:=A c d;omega
     clear S G A z y;rintro _ h ⟨v3,S⟩;simp only [LC,zO,Xi]at S;rw [XF,XF,show((mix T.to T.fr).take (2*k)).flatMap iV++((aW T.to k).flatMap (fun x=>aY 8 (u64 x))++(aW T.fr k).flatMap (fun x=>aY 8 (u64 x)))=((mix T.to T.fr).take (2*(k+1))).flatMap iV by rw [mt,Xz];simp only [zO,Xi,XS];rfl]at S;simp only [BZ,r44,w,seval];exact J (k+1) _ _ (by omega) ⟨by omega,v3,S,by simp [ao,r3,r7,r8,r43]⟩
   . have:k=T.l.length:=(by omega);subst this;rw [Xx (by rw [uu (by omega)];omega)]at S;have gw:=(S.gown _ m0).1;simp only [BZ,r3,r43,r44,aq,hlt,seval];refine ar (nj S.ok (S.ld (b:=q) (o:=0) m0 rfl) gw) ?_;intro h g;replace S:=S1.rebase (S.call g);simp only [BZ,ab,seval];exact⟨S.gr,by rw [<-hP];unfold qk;simp only [XF]⟩
theorem cellsS_ok(L:OZ a){m:List Int}{F:Bs}(M:I.C=some (m,F))(i:me a b I):Ret zB 75 [ptrTo b] a fun r h'=>Gr a h'/\r=sv (gp m):=by
 have S:=Si L;obtain⟨pn,pt,N,O,r,_,s,_,u⟩:=i;rw [M]at u;obtain⟨k,fp,fb,v,y,B,P,lm,_,_,_,_,Q,_⟩:=(u:lU a N O I.g m F);have n2:=s.n2;have R:=r.load1 (o:=2) rfl;refine erA (n:=25) (rs:=[.tmp 2]) e75 ?_;simp only [BZ];refine step_ret (qF S) ?_;rintro _ h ⟨d,rfl,S⟩;simp only [BZ,S.gr.load R,seval];have kb:=S.key_lt (b:=d) (by simp [keys]);refine step_ret (Dk S.ok (P.gr S.gr) (by omega)) ?_;rintro z A ⟨g,C,T⟩;replace S:=S.call g;have U:=S;replace S:=S.base;have t: ∀{l:Hp},Mo (· ∈[d]) A l->aH l 1 (encI .i64) z m:=fun f=>C.mo f (fun c V e=>by simp only [XM]at e;have:=T c V;omega);simp only [BZ,C.lenq,seval];refine aD (fun(k:Nat) p l=>k<=m.length/\ ∃q,St (· ∈keys [(d,Ob.row [.slice none 0 0] 1)] [(.slice none 0 0,1,bI [])]) A l [(d,.row [q] 1)] [(q,1,bI (gp (m.take k)))]/\p 3=ptrTo d/\p 11=z/\p 12=.int .i64 m.length/\p 13=.int .i64 k) (fun k=>m.length-k) ?_ 0 _ _ ⟨Xg _,_,S,by simp [ao,ah]⟩;clear S;intro k W p l ⟨hk,q,S,r3,r11,r12,r13⟩;have w:am .i64 ((k:Int)+1)=((k+1:Nat):Int):=by rw [wrap64]<;>omega
 by_cases hlt:k<m.length
 . obtain⟨c1,o1,X,D⟩:=(t S.fr).ix (kd:=.i64) (aE .i64) hlt;have E:=Q _ (Xu hlt);have G:m.take (k+1)=m.take k++[m[k]]:=Xa hlt;have Y:(gp (m.take k)).length=k:=(by simp [gp];omega);generalize m[k]=x at D E G;obtain⟨x,rfl⟩:=X2 E.1;have Z:=bJ (k:=.u8) rfl (n:=x) (by simp only [pw];omega);simp only [BZ,aV,ax,a9,r3,r11,r12,r13,aq,hlt,X,D,encI,Z,seval];refine ag (bD (by exact t22.1) (by exact Yt) (by decide) (by rfl)) S ?_;clear S;intro h bs S H;simp only [LC,bA,bN,ae,Xs,Xd,Xr,Xy,seval]at S;obtain⟨S,J,K⟩:=S.bsl (kd:=.u8) (xs:=[(x:Int)]);simp only [BZ,seval];refine step_ret (zC S (i:=0) (j:=0) rfl rfl J K (by rw [Y];simp;omega)) ?_;clear S J K;rintro _ h ⟨q,S⟩;simp only [LC,zO,Xi]at S;rw [iQ (by omega),show gp (m.take k)++aY 1 x=gp (m.take (k+1)) by rw [G];simp [gp,aY]]at S;simp only [BZ,r13,w,seval];exact W (k+1) _ _ (by omega) ⟨by omega,q,S,by simp [ao,r3,r11,r12]⟩
 . have:k=m.length:=(by omega);subst this;rw [XE]at S;have gw:=(S.gown _ m0).1;simp only [BZ,r3,r12,r13,aq,hlt,seval];refine ar (nj S.ok (S.ld (b:=d) (o:=0) m0 rfl) gw) ?_;intro h g;replace S:=U.rebase (S.call g);simp only [BZ,ab,seval];exact S.gr
structure Qd where
 kd:Nat
 is:Bool
 f:Value
 body:Bs
def encQ(q:Qd):List Value:=[.int .i64 (q.kd:Nat),.bool q.is,q.f]
theorem CX(q:Qd):(encQ q).length=3:=rfl
def nw(l:List Qd):List Sec:=(l.filter Qd.is).map fun q=>(q.kd,q.body)
theorem Ff(l:List Qd)(q:Qd):nw (l++[q])=nw l++if q.is=true then [(q.kd,q.body)]else []:=by unfold nw;rw [List.filter_append,XQ];cases h:q.is<;>simp [h]
theorem build_q4{a b c d e f g h i j k l:Value}:nR zB 138 [(0,.agg ⟨[a,b,c]⟩),(1,.agg ⟨[d,e,f]⟩),(2,.agg ⟨[g,h,i]⟩),(3,.agg ⟨[j,k,l]⟩)]=some (.agg ⟨[a,b,c,d,e,f,g,h,i,j,k,l]⟩):=by unfold nR;rw [t138.2.2.2.1,t138.1];simp only [t137.2.1];rfl
theorem index_q4{l:List Qd}(a:l.length=4)(b:i<4):kZ zB 138 (.agg ⟨l.flatMap encQ⟩) (.int .i64 (i:Nat))=some (.agg ⟨encQ (l[i]'(by omega))⟩):=by unfold kZ;rw [t138.1];simp only [t137.2.1,ey b,partOf,t137.1,aK CX,a];rw [Yc (by omega),cond_true,yJ CX]
theorem iw{t:TypeId}{x y:Operand}{s:Bool}(a:qs E t=true)(h:(p=.pointer none/\s=false)\/((∃b,p=ptrTo b)/\s=true)):bQ E .neq t x y p (.pointer none)=some (.bool s):=by
 rcases h with⟨rfl,rfl⟩|⟨⟨b,rfl⟩,rfl⟩
 . exact n_pnil a
 . exact n_ptr a
theorem sec1_ok(j:OZ a){m:List Int}{F:Bs}(l:I.C=some (m,F))(i:me a b I)(p:a.load c 0 1=some [ptrTo b]):cj zB 76 [ptrTo c] a (sv F):=by have S:=Si j;obtain⟨w,x,q,s,r,_,t,_,d⟩:=i;rw [l]at d;obtain⟨k,y,z,e,f,B,_,_,rfl,_,u,rfl,_⟩:=(d:lU a q s I.g m F);have v:=r.load1 (o:=3) rfl;refine erA (n:=7) (rs:=[.tmp 1]) e76 ?_;simp only [BZ,p,v,seval];refine ar (vU S.ok u) ?_;intro h g;replace S:=S.call g;simp only [BZ,ab,seval];exact S.gr
def tabO:Option Tab->Bs
 |some T=>qk T|none=>[]
theorem D9{A:Hp}(ok:OZ A)(i:me A b I):Ret zB 23 [ptrTo b] A fun r h'=>Gr A h'/\aH h' 2 encS r (gL I):=by
 have S:=Si ok;have J:=i;obtain⟨pn,W,X,pf,r,_,af,K,L⟩:=i;have l1:=r.load1 (o:=1) rfl;have l2:=r.load1 (o:=2) rfl;have nT:(W=.pointer none/\I.T.isSome=false)\/((∃b,W=ptrTo b)/\I.T.isSome=true):=by
  cases B:I.T with
  |none=>rw [B]at K;exact .inl ⟨K,rfl⟩|some T=>rw [B]at K;exact .inr ⟨TabM.ptr K,rfl⟩
 have nC:(X=.pointer none/\I.C.isSome=false)\/((∃b,X=ptrTo b)/\I.C.isSome=true):=by
  cases t:I.C with
  |none=>rw [t]at L;exact .inl ⟨L.1,rfl⟩|some c=>obtain⟨m,F⟩:=c;rw [t]at L;obtain⟨x,y,e,_⟩:=lU.ptr L;exact .inr ⟨⟨x,e⟩,rfl⟩
 have eT:=fun(x y:Operand)=>iw (x:=x) (y:=y) t61.2.2.2.2.1 nT;have eC:=fun(x y:Operand)=>iw (x:=x) (y:=y) t62.2.2.2.2.1 nC;refine erA (n:=48) (rs:=[.tmp 2]) e23 ?_;simp only [BZ,seval];refine ag (dU (by exact dB)) S ?_;clear S;intro h Y S Z;have R1:=S.row (b:=Y) m0;have u:=S.gr;have C:=R1.load1 (o:=0) rfl;obtain⟨Q,D⟩: ∃Q:List Qd,Q=[⟨1,true,.func (.func 73) #[ptrTo b] #[],ji I.g⟩,⟨2,I.T.isSome,.func (.func 74) #[ptrTo b] #[],tabO I.T⟩,⟨3,I.C.isSome,.func (.func 75) #[ptrTo b] #[],match I.C with|some c=>gp c.1|none=>[]⟩,⟨4,I.C.isSome,.func (.func 76) #[] #[ptrTo Y],match I.C with|some c=>c.2|none=>[]⟩]:=⟨_,rfl⟩;have lQ:Q.length=4:=by rw [D];rfl
 have sQ:nw Q=gL I:=by rw [D];unfold nw gL tabO;cases I.T<;>cases I.C<;>rfl
 have fQ: ∀q∈Q,Fl q.f:=by intro q z;rw [D]at z;simp only [X3,XY,or_false]at z;rcases z with rfl|rfl|rfl|rfl<;>exact jg
 rename Hp=>hS;have cQ: ∀q∈Q,q.is=true-> ∃g a c,q.f=.func (.func g) a c/\ ∀h',Gr hS h'->Ret zB g (a.toList++c.toList) h' fun r N=>Gr h' N/\r=sv q.body:=by
  intro q z p;rw [D]at z;simp only [X3,XY,or_false]at z;rcases z with rfl|rfl|rfl|rfl
  . exact⟨_,_,_,rfl,fun h' g=>graphS_ok g.ok (J.gr (u.trans g))⟩
  . cases B:I.T with
    |none=>rw [B]at p;cases p
    |some T=>exact⟨_,_,_,rfl,fun h' g=>marksS_ok g.ok B (J.gr (u.trans g))⟩
  . cases t:I.C with
    |none=>rw [t]at p;cases p
    |some c=>obtain⟨m,F⟩:=c;exact⟨_,_,_,rfl,fun h' g=>cellsS_ok g.ok t (J.gr (u.trans g))⟩
  . cases t:I.C with
    |none=>rw [t]at p;cases p
    |some c=>obtain⟨m,F⟩:=c;exact⟨_,_,_,rfl,fun h' g=>iz (sec1_ok g.ok t (J.gr (u.trans g)) (g.load C)) fun v h' e=>⟨e.2,e.1⟩⟩
 simp only [BZ];refine av (aB rfl) (q:=0) (ps:=[]) (by kernel_rfl) ?_;simp only [BZ,cls,C,u.load l1,u.load l2,eT,eC,build_q4,seval];replace S:=S.nilG (k:=2);refine aD (fun(k:Nat) M h=>k<=4/\ ∃v,St NoM hS h [] [(v,2,(nw (Q.take k)).flatMap encS)]/\M 2=v/\M 31=.agg ⟨Q.flatMap encQ⟩/\M 32=.int .i64 k) (fun k=>4-k) ?_ 0 _ _ ⟨Xg _,_,(St.init u.ok).nilG,by simp [ao],by rw [D];simp [ao,encQ,ah],by simp [ao]⟩;clear S;intro k ih M h ⟨hk,v,S,r2,r31,r32⟩;have w:am .i64 ((k:Int)+1)=((k+1:Nat):Int):=by rw [wrap64]<;>omega
 by_cases hlt:k<4
 . have s:(k:Int)<4:=(by omega);have E:k<Q.length:=(by omega);have mQ:=Xu E;have O:=index_q4 lQ hlt;have P:=fQ _ mQ;have R:=cQ _ mQ;have tk:Q.take (k+1)=Q.take k++[Q[k]]:=Xa E;have U:=(congrArg nw tk).trans (Ff _ _);have ln:(nw (Q.take k)).length<=4:=(by unfold nw;rw [Xv];exact Xe (YW _ _) (by rw [XC];omega));generalize Q[k]=q at O P R U;obtain⟨V,is,f,d⟩:=q;simp only [encQ]at O;simp only []at P R;simp only [BZ,r31,r32,s,O,seval];refine ag ay S ?_;clear S;intro h G S aa;simp only [BZ,seval];refine au (stA S (i:=0) t137.2.1 (by simp only [ae,X4,Yd,P.2.1,Xl];rfl)) ?_;clear S;rintro h ⟨S,_⟩;simp only [LC,ae,lay,Xo,Xp,seval]at S;cases is with
   | false=>simp only [BZ,r32,w,S.ld (b:=G) (o:=1) m0 rfl,seval];have S:=S.drop1;rw [show nw (Q.take k)=nw (Q.take (k+1)) by rw [U];simp]at S;exact ih (k+1) _ _ (by omega) ⟨by omega,v,S,by simp [ao,r2,r31]⟩| true=>
     obtain⟨g,a,c,rfl,hr⟩:=R rfl;simp only [BZ,S.ld (b:=G) (o:=1) m0 rfl,seval];refine av (aB rfl) (q:=128) (ps:=[(2,5)]) (by kernel_rfl) ?_;simp only [BZ,cls,r2,S.ld (b:=G) (o:=0) m0 rfl,S.ld (b:=G) (o:=2) m0 rfl,seval];have k4:=S.key_lt (b:=G) (by simp [keys]);refine cF (hr _ S.gr) ?_;rintro _ h5 ⟨g5,rfl⟩;have e5:=aI g5 k4;replace S:=S.call g5;simp only [BZ,cls,gP (l:=d),seval];refine dR (bD (by exact t33.1) (by exact Y5) (by decide) (by rfl)) S ?_;clear S;intro h bs S ac ad;simp only [LC,bA,bN,ae,Xs,Xd,Xr,Xy,seval]at S;have H:aF h 2 (.slice (some ⟨bs,0,none⟩) 1 1)=some (1,encS (V,d)):=(by simp only [aF];rw [S.lds (b:=bs) (o:=0) (n:=1*2) m0 (lbt rfl)];rfl);replace S:=S.drop1;simp only [BZ,cls,seval];refine jo (S.grow (j:=0) (m:=1) (new:=encS (V,d)) rfl t33.1 Y5 (by decide) t33.2.2.2.2.2 H rfl (by decide) rfl (by rw [aK ck,ck];omega)) ?_;clear S H;rintro h v2 S;simp only [LC]at S;rw [show(nw (Q.take k)).flatMap encS++encS (V,d)=(nw (Q.take (k+1))).flatMap encS by rw [U,Xz];simp]at S;simp only [BZ,cls,r32,seval];refine⟨by simp only [aR,aZ,aM,bo,aP,ne_eq,not_false_eq_true,bj,bH,aQ,aO,bS,cq,az,Xl,r2,r31,r32,ah,aJ e5,aG e5,seval],?_⟩;simp only [w];exact ih (k+1) _ _ (by omega) ⟨by omega,v2,S.drop1,by simp [ao,r31]⟩
 . have s: ¬(k:Int)<4:=(by omega);rw [Xx (by omega),sQ]at S;simp only [BZ,ab,r2,r32,s,seval];exact⟨u.trans S.gr,(S.gown _ m0).1.sl rfl ck (by decide)⟩
theorem secsI_len(I:Img):(gL I).length<=4:=by unfold gL;cases I.T<;>cases I.C<;>simp
theorem Bx(I:Img): ∀x∈gL I,x.1<256:=by unfold gL;cases I.T<;>cases I.C<;>simp
theorem DE(c:OZ a)(i:me a b I)(d:((gL I).flatMap Yk).length<=100000):Ret zB 6 [ptrTo b] a fun r h'=>Gr a h'/\r=.tuple #[sv (qW (gL I)),.int .i64 0]:=by have S:=Si c;refine erA (n:=16) (rs:=[.tmp 2,.tmp 3]) Tryz.e6 ?_;simp only [BZ,seval];refine ar (CK S.ok (i.gr S.gr)) ?_;intro h g;replace S:=S.call g;simp only [BZ,seval];refine step_ret (D9 S.ok (i.gr S.gr)) ?_;intro v h ⟨g,s1⟩;replace S:=S.call g;simp only [BZ,seval];refine step_ret (encode_ok S.ok s1 (by have:=secsI_len I;omega) (Bx I) d) ?_;intro v h ⟨g,e⟩;replace S:=S.call g;subst e;simp only [BZ,ab,seval];exact S.gr
theorem iU(b:OZ a){c:Int}:cj zB 82 [.bool true,.int .i64 c] a (.tuple #[]):=by have S:=Si b;refine erA (n:=9) (rs:=[]) e82 ?_;simp only [BZ,ab,seval];exact S.gr
theorem hZ(b:OZ a){c:Int}:dE zB 82 [.bool false,.int .i64 c] none a fun o rc h'=>o=.pan (.iface 146 (.agg ⟨[.int .i64 c]⟩))/\rc=none/\Gr a h':=by have S:=Si b;refine enA (n:=9) (rs:=[]) e82 ?_;simp only [BZ,seval];exact cg (cy ⟨rfl,rfl,S.gr⟩)
theorem kind1_ok(d:OZ a){x:Sec}{k:Int}:cj zB 81 [.agg ⟨encS x⟩,.int .i64 k] a (.bool (decide ((x.1:Int)=k))):=by have S:=Si d;refine erA (n:=9) (rs:=[.tmp 4]) e81 ?_;simp only [BZ,encS,seval];refine ag (bK (by intro x e;cases e)) S ?_;clear S;intro h f S c;simp only [ae]at S;simp only [BZ,ab,S.ld (b:=f) (o:=0) m0 rfl,seval];exact S.gr
theorem eqF_ok{p:Hp}(H:OZ p){u:Value}{l:List Sec}{m:List Int}(A:aH p 2 encS u l)(B:aH p 1 (encI .i64) v m)(L:l.length<1000):cj zB 80 [u,v,.func (.func 81) #[] #[]] p (.bool (decide (l.map (fun x=>(x.1:Int))=m))):=by
 have S:=Si H;by_cases a:l.length=m.length
 . have hle:(l.length:Int)=(m.length:Int):=(by omega);refine erA (n:=32) (rs:=[.tmp 6]) e80 ?_;simp only [BZ,A.lenq,B.lenq,hle,seval];refine aD (fun(i:Nat) q h=>i<=l.length/\St NoM p h [] []/\(∀j (r:j<i) (y:j<l.length) (F:j<m.length),(l[j].1:Int)=m[j])/\q 1=v/\q 2=.func (.func 81) #[] #[]/\q 15=u/\q 16=.int .i64 l.length/\q 17=.int .i64 i) (fun i=>l.length-i) ?_ 0 _ _ ⟨Xg _,S,fun j h=>absurd h (YN _),by simp [ao,cC,a]⟩;clear S;intro i I q h ⟨hi,S,he,r1,r2,r15,r16,r17⟩;have w:am .i64 ((i:Int)+1)=((i+1:Nat):Int):=(by rw [wrap64]<;>omega);by_cases hlt:i<l.length
   . have s:i<m.length:=(by omega);obtain⟨c,o,t,C⟩:=(A.gr S.gr).ix (kd:=.i64) ck hlt;obtain⟨M,N,f,d⟩:=(B).ix (kd:=.i64) (aE .i64) s;simp only [encI]at d;have O:=S.gr;simp only [BZ,r15,r16,r17,aq,hlt,t,C,seval];refine ag ay S ?_;clear S;intro h J S G;simp only [BZ,encS,seval];refine au (stA S (i:=0) t50.2.1) ?_;clear S;rintro h ⟨S,K⟩;clear K;simp only [LC,ae,lay,Xo,Xp,seval]at S;simp only [BZ,r1,r2,f,S.gr.load d,XA,XI,Xm,S.lds (b:=J) (o:=0) (n:=2) m0 (lbt rfl),seval];refine ar (kind1_ok S.ok (x:=l[i]) (k:=m[i])) ?_;intro h g;replace S:=S.call g;replace S:=S.drop1;by_cases z:(l[i].1:Int)=m[i]
     . simp only [BZ,r17,z,w,seval];exact I (i+1) _ _ (by omega) ⟨by omega,S,fun j r y F=>by
        rcases Yl (Yy r)with h|rfl
        . exact he j h y F
        . exact z,by simp [ao,r1,r2,r15,r16]⟩
     . have D: ¬(l.map (fun x=>(x.1:Int))=m):=fun e=>z (by subst e;rw [YJ]);simp only [BZ,ab,z,D,seval];exact S.gr
   . have D:l.map (fun x=>(x.1:Int))=m:=(by refine List.ext_getElem (by rw [Xv];exact a) fun j r y=>?_;rw [YJ];exact he j (by rw [Xv]at r;omega) (by rw [Xv]at r;exact r) y);simp only [BZ,ab,r16,r17,aq,hlt,D,seval];exact S.gr
 . have hle: ¬((l.length:Int)=(m.length:Int)):=(by omega);have E: ¬(l.map (fun x=>(x.1:Int))=m):=fun e=>a (by rw [<-e,Xv]);refine erA (n:=32) (rs:=[.tmp 6]) e80 ?_;simp only [BZ,ab,A.lenq,B.lenq,hle,E,seval];exact S.gr
theorem is_ok(j:OZ a){f:Nat}{i:Value}{l:List Sec}{m:List Int}(R:a.load f 0 1=some [i])(s:SlK a 2 encS i l)(c:aH a 1 (encI .i64) v m)(p:l.length<1000):cj zB 79 [v,ptrTo f] a (.bool (decide ((l.take m.length).map (fun x=>(x.1:Int))=m))):=by
 have S:=Si j;by_cases b:m.length<=l.length
 . have hle:(m.length:Int)<=(l.length:Int):=(by omega);obtain⟨q,k,o⟩:=s.to (kd:=.i64) t33.1 t50.2.1 ck b;refine erA (n:=17) (rs:=[.tmp 3]) e79 ?_;simp only [BZ,X6,Yi,R,s.sl.lenq,c.lenq,hle,k,seval];refine ar (eqF_ok S.ok o.sl c (by rw [XC];omega)) ?_;intro h g;replace S:=S.call g;simp only [BZ,ab,seval];exact S.gr
 . have hle: ¬((m.length:Int)<=(l.length:Int)):=(by omega);have d: ¬((l.take m.length).map (fun x=>(x.1:Int))=m):=fun e=>(by have:=congrArg YR e;rw [Xv,XC]at this;omega);refine erA (n:=17) (rs:=[.tmp 3]) e79 ?_;simp only [BZ,ab,R,s.sl.lenq,c.lenq,hle,d,seval];exact S.gr
def kj(n k:Nat)(val:Nat->Int):List Value:=((zM k).map fun j=>Value.int .i64 (val j))++Xk (n-k) (.int .i64 0)
theorem yD(h:k<=n):(kj n k val).length=n:=by simp [kj];omega
theorem zg(h:k<n):(kj n k val).set k (.int .i64 (val k))=kj n (k+1) val:=by unfold kj;obtain⟨m,a⟩: ∃m,n-k=m+1:=⟨n-k-1,by omega⟩;rw [a,List.replicate_succ,YU _ _ (by simp),show n-(k+1)=m by omega,XT,XQ];simp
theorem zn:kj n n val=((zM n).map val).flatMap (encI .i64):=by
 unfold kj;rw [YC,Yr,XS,YE]
 induction(zM n)with
 |nil=>rfl|cons a l b=>rw [Yg,zO,<-b];rfl
theorem Dq{d:Hp}{a c:Array Value}(e:Nat->List (Nat×Ob))(S:St M d hq (e 0) G)(q:n<=1000)(m: ∀k p h,k<n->St M d h (p::e k) G->Ret zB g (a.toList++c.toList) h fun r h'=>r=.int .i64 (val k)/\St M d h' (p::e (k+1)) G):Ret zB 138 [.int .i64 (n:Nat),.func (.func g) a c] hq fun r h'=> ∃b,r=.slice (some ⟨b,0,none⟩) n n/\St M d h' ((b,.row (((zM n).map val).flatMap (encI .i64)) 1)::e n) G:=by
 have s:=S.ok;refine erA (n:=21) (rs:=[.tmp 4]) e138 ?_;simp only [BZ,seval];refine ag (kY (by exact t38.1) (by exact Yn) (by omega) (by omega)) S ?_;clear S;intro h b S l;rw [Xw,mE,show Xk n (Value.int .i64 0)=kj n 0 val by simp [kj]]at S;simp only [BZ,Xw,seval];refine aD (fun(k:Nat) f h=>k<=n/\St M d h ((b,.row (kj n k val) 1)::e k) G/\f 1=.func (.func g) a c/\f 5=.slice (some ⟨b,0,none⟩) n n/\f 10=.int .i64 n/\f 11=.int .i64 k) (fun k=>n-k) ?_ 0 _ _ ⟨Xg _,S,by simp [ao,cC]⟩;clear S;intro k o f h ⟨hk,S,r1,r5,r10,r11⟩;have w:am .i64 ((k:Int)+1)=((k+1:Nat):Int):=by rw [wrap64]<;>omega
 by_cases hlt:k<n
 . simp only [BZ,r1,r5,r10,r11,aq,hlt,seval];refine step_ret (m k _ _ hlt S) ?_;rintro _ h ⟨rfl,S⟩;simp only [BZ,ey hlt,seval];refine au (aw S (i:=0) rfl Tryz.t3.2.2.1 cE (by rw [yD hk];exact hlt) ono) ?_;clear S;rintro h ⟨S,_⟩;simp only [LC]at S;rw [zg hlt]at S;simp only [BZ,r11,w,seval];exact o (k+1) _ _ (by omega) ⟨by omega,S,by simp [ao,r1,r5,r10]⟩
 . have j:k=n:=(by omega);subst j;simp only [BZ,ab,r5,r10,r11,aq,hlt,seval];rw [zn]at S;exact⟨b,rfl,S⟩
theorem Ch{d:Hp}{a c:Array Value}(e:Nat->List (Nat×Ob))(S:St M d hq (e 0) G)(q:n<=1000)(m: ∀k p h,k<n->St M d h (p::e k) G->Ret zB g (a.toList++c.toList) h fun r h'=>r=.int .i64 (val k)/\St M d h' (p::e (k+1)) G):Ret zB 139 [.int .i64 (n:Nat),.func (.func g) a c] hq fun r h'=> ∃b,r=.slice (some ⟨b,0,none⟩) n n/\St M d h' ((b,.row (((zM n).map val).flatMap (encI .i64)) 1)::e n) G:=by
 have s:=S.ok;refine erA (n:=21) (rs:=[.tmp 4]) e139 ?_;simp only [BZ,seval];refine ag (kY (by exact t23.1) (by exact X8) (by omega) (by omega)) S ?_;clear S;intro h b S l;rw [Xw,mE,show Xk n (Value.int .i64 0)=kj n 0 val by simp [kj]]at S;simp only [BZ,Xw,seval];refine aD (fun(k:Nat) f h=>k<=n/\St M d h ((b,.row (kj n k val) 1)::e k) G/\f 1=.func (.func g) a c/\f 5=.slice (some ⟨b,0,none⟩) n n/\f 10=.int .i64 n/\f 11=.int .i64 k) (fun k=>n-k) ?_ 0 _ _ ⟨Xg _,S,by simp [ao,cC]⟩;clear S;intro k o f h ⟨hk,S,r1,r5,r10,r11⟩;have w:am .i64 ((k:Int)+1)=((k+1:Nat):Int):=by rw [wrap64]<;>omega
 by_cases hlt:k<n
 . simp only [BZ,r1,r5,r10,r11,aq,hlt,seval];refine step_ret (m k _ _ hlt S) ?_;rintro _ h ⟨rfl,S⟩;simp only [BZ,ey hlt,seval];refine au (aw S (i:=0) rfl Tryz.t2.2.2.1 cE (by rw [yD hk];exact hlt) ono) ?_;clear S;rintro h ⟨S,_⟩;simp only [LC]at S;rw [zg hlt]at S;simp only [BZ,r11,w,seval];exact o (k+1) _ _ (by omega) ⟨by omega,S,by simp [ao,r1,r5,r10]⟩
 . have j:k=n:=(by omega);subst j;simp only [BZ,ab,r5,r10,r11,aq,hlt,seval];rw [zn]at S;exact⟨b,rfl,S⟩
theorem Bf{b:Hp}(S:St M b hq L G):Ret zB 133 [ptrTo c] hq fun r h'=> ∃a,r=.func (.func 190) #[] #[ptrTo a]/\St M b h' ((a,.row [ptrTo c] 1)::L) G:=by
 have f:=S.ok;refine erA (n:=4) (rs:=[.tmp 2]) e133 ?_;simp only [BZ,seval];refine ag (bK (by intro x e;cases e)) S ?_;clear S;intro h a S d;simp only [ae]at S;simp only [BZ,ab,seval];exact⟨_,rfl,S⟩
theorem nH{d:Hp}(S:St M d hq L G){a:Nat}(f:hq.load e 0 1=some [ptrTo c])(g:L[j]? =some (c,.row (rdC s a (.pointer none)) 1))(i:a+4<=s.length)(hs:s.length<=1000000):Ret zB 190 [ptrTo e] hq fun r h'=>r=.int .i64 (aS ((s.drop a).take 4):Nat)/\St M d h' (L.set j (c,.row (rdC s (a+4) (.pointer none)) 1)) G:=by
 have o:=S.ok;refine erA (n:=5) (rs:=[.tmp 1]) e190 ?_;simp only [BZ,f,seval];refine step_ret (z7 (bad:=false) S g rfl (by omega) hs) ?_;rintro _ h ⟨rfl,l,b,S⟩;rw [c6 i]at b S⊢;obtain rfl:l=.pointer none:=b.1;simp only []at S⊢;have m:aS ((s.drop a).take 4)<4294967296:=jG (k:=4) (by simp;omega);generalize aS ((s.drop a).take 4)=x at m;have w:am .i64 (x:Int)=(x:Int):=by rw [wrap64]<;>omega
 simp only [BZ,aV,ax,a9,ab,w,seval];exact S
theorem cells1_ok{d:Hp}(S:St M d hq L G){a:Nat}(f:hq.load e 0 1=some [ptrTo c])(g:L[j]? =some (c,.row (rdC s a (.pointer none)) 1))(i:a+1<=s.length)(hs:s.length<=1000000):Ret zB 142 [ptrTo e] hq fun r h'=>r=.int .i64 (aS ((s.drop a).take 1):Nat)/\St M d h' (L.set j (c,.row (rdC s (a+1) (.pointer none)) 1)) G:=by
 have o:=S.ok;refine erA (n:=5) (rs:=[.tmp 1]) e142 ?_;simp only [BZ,f,seval];refine step_ret (zj (bad:=false) S g rfl (by omega) hs) ?_;rintro _ h ⟨rfl,l,b,S⟩;rw [c6 i]at b S⊢;obtain rfl:l=.pointer none:=b.1;simp only []at S⊢;have m:aS ((s.drop a).take 1)<256:=jG (k:=1) (by simp;omega);generalize aS ((s.drop a).take 1)=x at m;have w:am .i64 (x:Int)=(x:Int):=by rw [wrap64]<;>omega
 simp only [BZ,aV,ax,a9,ab,w,seval];exact S
def g4(s:Bs)(a:Nat):Nat:=aS ((s.drop a).take 4)
theorem graph1_ok{l:Hp}(S:St M l hq L G){g a:Nat}(c:hq.load d 0 1=some [.func (.func 190) #[] #[ptrTo g]])(f:hq.load g 0 1=some [ptrTo e])(b:d≠e)(k:g≠e)(m:L[j]? =some (e,.row (rdC s a (.pointer none)) 1))(z:a+12<=s.length)(hs:s.length<=1000000):Ret zB 136 [ptrTo d] hq fun r h'=>r=.agg ⟨[.int .i64 (g4 s a:Nat),.int .i64 (g4 s (a+4):Nat),.int .i64 (g4 s (a+8):Nat)]⟩/\St M l h' (L.set j (e,.row (rdC s (a+12) (.pointer none)) 1)) G:=by
 have p:=S.ok;have x:=S;replace S:=St.init1 S.ok (S.own _ (Ye m)).2;have A:=bU p c;have B:=bU p f;refine erA (n:=9) (rs:=[.cell 1 81]) e136 ?_;simp only [BZ];refine ag ay S ?_;clear S;intro h C S t;simp only [BZ];refine av (aB rfl) (q:=0) (ps:=[(3,4),(1,4),(1,2)]) (by kernel_rfl) ?_;simp only [BZ,cls,S.old c b,seval];refine cF (nH (St.init1 S.ok (S.own _ m1).2) (j:=0) (S.old f k) rfl (by omega) hs) ?_;rintro _ h ⟨rfl,T⟩;simp only [Xt]at T;have u:=iG (T.fr.get d (bU S.ok (S.old c b)) b);replace S:=S.call1 (i:=1) rfl T.fr (T.own _ m0).2;simp only [LC,zO,Xi]at S;clear T;simp only [BZ,cls,S.old c b,seval];refine cF (nH (St.init1 S.ok (S.own _ m1).2) (j:=0) (S.old f k) rfl (by omega) hs) ?_;rintro _ h ⟨rfl,T⟩;simp only [Xt]at T;have v:=iG (T.fr.get d (bU S.ok (S.old c b)) b);replace S:=S.call1 (i:=1) rfl T.fr (T.own _ m0).2;simp only [LC,zO,Xi]at S;clear T;simp only [BZ,cls,S.old c b,seval];refine cF (nH (St.init1 S.ok (S.own _ m1).2) (j:=0) (S.old f k) rfl (by omega) hs) ?_;rintro _ h ⟨rfl,T⟩;simp only [Xt]at T;have w:=iG (T.fr.get d (bU S.ok (S.old c b)) b);replace S:=S.call1 (i:=1) rfl T.fr (T.own _ m0).2;simp only [LC,zO,Xi]at S;clear T;simp only [BZ,cls,seval];refine dM (stA S (i:=0) t81.2.1) ?_;clear S;rintro h ⟨S,y⟩;clear y;simp only [LC,ae,lay,Xo,Xp,seval]at S;simp only [BZ,ab,seval];refine⟨by simp only [aR,aZ,aM,bo,aP,ne_eq,not_false_eq_true,bj,bH,aQ,aO,bS,cq,az,Xl,cC,ah,aG u,aJ u,aG v,aJ v,aG w,aJ w,seval],?_⟩;refine(bF (by decide) (by simp only [az,ah,seval];exact bz t81.1 t81.2.1 (S.lds (o:=0) (n:=3) m0 (lbt rfl)))).2 ?_;refine bV.2 ⟨rfl,?_⟩;exact x.call1 m S.drop1.fr (S.own _ m1).2
def nP(n k:Nat)(val:Nat->Arc):List Value:=(((zM k).map val).flatMap cR)++Xk (3*(n-k)) (.int .i64 0)
theorem EF{val:Nat->Arc}(h:k<=n):(nP n k val).length=3*n:=by unfold nP;rw [Xh,aK dD,Xv,XG,List.length_replicate];omega
theorem EI{val:Nat->Arc}(h:k<n):lay (nP n k val) (k*3) (cR (val k))=nP n (k+1) val:=by
 unfold nP;obtain⟨m,b⟩: ∃m,n-k=m+1:=⟨n-k-1,by omega⟩;have a:(((zM k).map val).flatMap cR).length=k*3:=by rw [aK dD,Xv,XG]
 have c:((zM (k+1)).map val).flatMap cR=((zM k).map val).flatMap cR++cR (val k):=by rw [XT,XQ,Xz];simp
 rw [b,show n-(k+1)=m by omega,c];generalize((zM k).map val).flatMap cR=A at a;unfold lay;rw [List.take_left' a,dD,<-XR,List.drop_left' a,List.drop_replicate,show 3*(m+1)-3=3*m by omega]
theorem repL_3{z:Value}(n:Nat):bA [z,z,z] n=Xk (3*n) z:=by
 induction n with
 |zero=>rfl|succ n a=>rw [bA,a,show 3*(n+1)=3*n+1+1+1 by omega];rfl
theorem someA_ok{d:Hp}{a c:Array Value}{val:Nat->Arc}(f:Nat->List (Nat×Ob))(S:St M d hq (f 0) G)(s:n<=1000)(o: ∀k p h,k<n->St M d h (p::f k) G->Ret zB g (a.toList++c.toList) h fun r h'=>r=.agg ⟨cR (val k)⟩/\St M d h' (p::f (k+1)) G):Ret zB 135 [.int .i64 (n:Nat),.func (.func g) a c] hq fun r h'=> ∃b,r=.slice (some ⟨b,0,none⟩) n n/\St M d h' ((b,.row (((zM n).map val).flatMap cR) 1)::f n) G:=by
 have t:=S.ok;refine erA (n:=21) (rs:=[.tmp 4]) e135 ?_;simp only [BZ,seval];refine ag (kY (by exact t35.1) (by exact e81E) (by omega) (by omega)) S ?_;clear S;intro h b S m;simp only [BZ,Xw,seval];rw [show bA [Value.int .i64 0,.int .i64 0,.int .i64 0] (n:Int).toNat=nP n 0 val by rw [Xw,repL_3];simp [nP]]at S;refine aD (fun(k:Nat) j h=>k<=n/\St M d h ((b,.row (nP n k val) 1)::f k) G/\j 1=.func (.func g) a c/\j 5=.slice (some ⟨b,0,none⟩) n n/\j 10=.int .i64 n/\j 11=.int .i64 k) (fun k=>n-k) ?_ 0 _ _ ⟨Xg _,S,by simp [ao,cC]⟩;clear S;intro k q j h ⟨hk,S,r1,r5,r10,r11⟩;have w:am .i64 ((k:Int)+1)=((k+1:Nat):Int):=by rw [wrap64]<;>omega
 by_cases hlt:k<n
 . simp only [BZ,r1,r5,r10,r11,aq,hlt,seval];refine step_ret (o k _ _ hlt S) ?_;rintro _ h ⟨rfl,S⟩;simp only [BZ,ey hlt,seval];refine au (S.store (i:=0) rfl t81.2.1 (by intro x e;cases e) rfl rfl (by rw [EF hk];show k*3+3<=_;omega) ono) ?_;clear S;rintro h ⟨S,_⟩;simp only [LC,ae]at S;rw [EI hlt]at S;simp only [BZ,r11,w,seval];exact q (k+1) _ _ (by omega) ⟨by omega,S,by simp [ao,r1,r5,r10]⟩
 . have l:k=n:=(by omega);subst l;simp only [BZ,ab,r5,r10,r11,aq,hlt,seval];rw [show nP k k val=((zM k).map val).flatMap cR by simp [nP]]at S;exact⟨b,rfl,S⟩
theorem lJ{a:Type}(f:Bs->a)(w k:Nat)(s:Bs):jL f w k s=(zM k).map fun j=>f ((s.drop (w*j)).take w):=by
 refine List.ext_getElem? fun i=>?_;by_cases h:i<k
 . rw [numsD_at f w s h,XD,List.getElem?_range h];rfl
 . rw [Ya (by rw [kJ];omega),Ya (by simp;omega)]
def xAt(s:Bs)(j:Nat):Int:=get8 ((s.drop (8+16*j)).take 8)
def yAt(s:Bs)(j:Nat):Int:=get8 ((s.drop (8+16*j+8)).take 8)
def aAt(s:Bs)(N j:Nat):Arc:=⟨g4 s (8+16*N+12*j),g4 s (8+16*N+12*j+4),g4 s (8+16*N+12*j+8)⟩
theorem graG_rd(s:Bs):g4 s 0=(dh s).nodes/\g4 s 4=(dh s).arcs.length/\(dh s).X=(zM (dh s).nodes).map (xAt s)/\(dh s).Y=(zM (dh s).nodes).map (yAt s)/\(dh s).arcs=(zM (dh s).arcs.length).map (aAt s (dh s).nodes):=by
 have a:(dh s).arcs.length=rI s:=kJ _ _ _ _;refine⟨rfl,a.symm,?_,?_,?_⟩
 . show(jL xyG 16 (kA s) (s.drop 8)).map Y9=(zM (kA s)).map (xAt s);rw [lJ,Yb];refine XJ fun j _=>?_;simp only [Function.comp,xyG,xAt,XR,YZ];rfl
 . show(jL xyG 16 (kA s) (s.drop 8)).map Yk=(zM (kA s)).map (yAt s);rw [lJ,Yb];refine XJ fun j _=>?_;simp only [Function.comp,xyG,yAt,YS,XR,YZ];rfl
 . rw [a];show jL arcG 12 (rI s) (s.drop (8+16*kA s))=(zM (rI s)).map (aAt s (kA s));rw [lJ];refine XJ fun j _=>?_;simp only [arcG,aAt,g4,YS,XR,YZ];rfl
theorem pE(B:jM s)(hs:s.length<=4815):pK (dh s):=by have l:=B.len;have a:(dh s).nodes=kA s:=rfl;have b:(dh s).arcs.length=rI s:=kJ _ _ _ _;exact⟨by omega,(Xv _).trans (kJ _ _ _ _),(Xv _).trans (kJ _ _ _ _),by omega⟩
theorem St.ne{d:Hp}(S:St M d h L G)(e:L[i]? =some (b,o))(f:L[j]? =some (c,o'))(a:i≠j):b≠c:=by rintro rfl;obtain⟨l,g⟩:=List.getElem?_eq_some_iff.1 (lE (G:=G) e);obtain⟨m,k⟩:=List.getElem?_eq_some_iff.1 (lE (G:=G) f);exact a ((List.getElem_inj S.apart).1 (g.trans k.symm))
theorem note_gl{d:Hp}(S:St M d h L G){vs:List Value}(a:(v,k,vs)∈G)(f:(b,o)∈L):vK v=none\/ ∃c,vK v=some (.blk c)/\c≠b:=by
 rcases(S.gown _ a).1 with⟨e,_⟩|⟨c,n,e,_,_⟩
 . simp only []at e;subst e;exact .inl rfl
 . simp only []at e;refine .inr ⟨c,by rw [e];rfl,fun g=>(S.gblk a (c:=c) (by rw [e];rfl)).2 ?_⟩;rw [g];exact List.mem_map.2 ⟨_,f,rfl⟩
def trB:Value:=.iface 146 (.agg ⟨[.int .i64 25]⟩)
theorem BF{D:Hp}(ok:OZ D)(aa:s.length<=4815):dE zB 83 [sv s] none D fun o rc h'=>rc=none/\Gr D h'/\((jM s/\gG (dh s)/\ ∃v m,o=.ret v/\D.n<=m/\cI h' m v (dh s))\/(¬(jM s/\gG (dh s))/\o=.pan trB)):=by
 obtain⟨e0,e4,eX,eY,eA⟩:=graG_rd s;have O:jM s->pK (dh s):=fun B=>pE B aa;have e:jM s↔8<=s.length/\(dh s).nodes<=16777216/\(dh s).arcs.length<=67108864/\s.length=8+16*(dh s).nodes+12*(dh s).arcs.length:=by have e2:(dh s).arcs.length=rI s:=kJ _ _ _ _;rw [e2];exact⟨fun B=>⟨B.l8,B.n2,B.m2,B.len⟩,fun⟨x,y,z,u⟩=>⟨x,y,z,u⟩⟩
 generalize dh s=d at*
 have P:s.length<=1000000:=by omega
 have S:=Si ok;by_cases h8:8<=s.length;rotate_left
 . have c8: ¬(8:Int)<=(s.length:Int):=(by omega);refine enA (n:=77) (rs:=[.tmp 2]) e83 ?_;simp only [BZ,cw,c8,seval];refine ce (hZ S.ok) ?_;rintro o rc h ⟨rfl,rfl,g⟩;simp only [BZ];exact cg (cy ⟨rfl,g,.inr ⟨fun h=>h8 (e.1 h.1).1,rfl⟩⟩)
 have c8:(8:Int)<=(s.length:Int):=by omega
 refine enA (n:=77) (rs:=[.tmp 2]) e83 ?_;simp only [BZ,cw,c8,seval];refine ar (iU S.ok) ?_;intro h g;replace S:=S.call g;simp only [BZ,gP (l:=s),seval];refine step_ret (rj S) ?_;rintro _ h ⟨f,rfl,S⟩;simp only [BZ,seval];refine step_ret (Bf S) ?_;rintro _ h ⟨Z,rfl,S⟩;simp only [BZ];refine ag ay S ?_;clear S;intro h Q S ai;simp only [BZ,seval];refine au (aw S (i:=0) rfl ?_ ?_ ?_ ono) ?_
 . exact(by simp only [FA0])
 . exact(by exact jg)
 . exact Xb (lbt rfl)
 clear S;rintro h ⟨S,C⟩;clear C;simp only [LC,ae,lay,Xo,Xp,seval]at S;simp only [BZ];refine av (aB rfl) (q:=0) (ps:=[(1,2)]) (by kernel_rfl) ?_;simp only [BZ,cls,S.ld (b:=Q) (o:=0) m0 rfl,seval];refine cF (nH (s:=s) (a:=0) (St.init1 S.ok (S.own (f,.row (rdC s 0 (.pointer none)) 1) m2).2) (j:=0) (S.ld m1 rfl) rfl (by omega) P) ?_;rintro _ h ⟨rfl,T⟩;simp only [Xt]at T;have E:=fu S (i:=0) (j:=2) rfl rfl (by decide) T.fr;replace S:=S.call1 (i:=2) rfl T.fr (T.own _ m0).2;simp only [LC,zO,Xi]at S;clear T;simp only [BZ,cls,S.ld (b:=Q) (o:=0) m0 rfl,seval];refine cF (nH (s:=s) (a:=0+4) (St.init1 S.ok (S.own (f,.row (rdC s (0+4) (.pointer none)) 1) m2).2) (j:=0) (S.ld m1 rfl) rfl (by omega) P) ?_;rintro _ h ⟨rfl,T⟩;simp only [Xt]at T;have F:=fu S (i:=0) (j:=2) rfl rfl (by decide) T.fr;replace S:=S.call1 (i:=2) rfl T.fr (T.own _ m0).2;simp only [LC,zO,Xi]at S;clear T;rw [show aS ((s.drop 0).take 4)=d.nodes from e0,show aS ((s.drop (0+4)).take 4)=d.arcs.length from e4];simp only [BZ,cls,seval];refine⟨by simp only [aR,aZ,aM,bo,aP,ne_eq,not_false_eq_true,bj,bH,aQ,aO,bS,cq,az,Xl,ah,aG E,aJ E,aG F,aJ F,seval],?_⟩;clear E F;have H: ∀{ρ:Nat->Value} {L:List (Nat×Ob)} {G:List GL} {h:Hp} {K:Ex->Loc->Hp->Prop} {o:Oper} {l:Loc},St NoM D h L G-> ¬jM s->(∀h',Gr D h'->K (.pan trB) l h')->gK zB ⟨83,77,none⟩ o l K (some (.call 82 [.bool false,.int .i64 25],h)):=by intro ρ L G h K o l S _ hk;refine ce (hZ S.ok) ?_;rintro o rc h ⟨rfl,rfl,g⟩;exact hk h (S.gr.trans g)
 by_cases c1:(d.nodes:Int)<=16777216;rotate_left
 . simp only [BZ,c1,seval];refine H (ρ:=fun _=>.nilIface) S (fun h=>by have:=(e.1 h).2.1;omega) fun h g=>?_;simp only [BZ];exact cg (cy ⟨rfl,g,.inr ⟨fun h=>by have:=(e.1 h.1).2.1;omega,rfl⟩⟩)
 by_cases c2:(d.arcs.length:Int)<=67108864;rotate_left
 . simp only [BZ,c1,c2,seval];refine H (ρ:=fun _=>.nilIface) S (fun h=>by have:=(e.1 h).2.2.1;omega) fun h g=>?_;simp only [BZ];exact cg (cy ⟨rfl,g,.inr ⟨fun h=>by have:=(e.1 h.1).2.2.1;omega,rfl⟩⟩)
 have w1:am .i64 (16*(d.nodes:Int))=((16*d.nodes:Nat):Int):=by rw [wrap64]<;>omega
 have w2:am .i64 (8+((16*d.nodes:Nat):Int))=((8+16*d.nodes:Nat):Int):=by rw [wrap64]<;>omega
 have w3:am .i64 (12*(d.arcs.length:Int))=((12*d.arcs.length:Nat):Int):=by rw [wrap64]<;>omega
 have w4:am .i64 (((8+16*d.nodes:Nat):Int)+((12*d.arcs.length:Nat):Int))=((8+16*d.nodes+12*d.arcs.length:Nat):Int):=by rw [wrap64]<;>omega
 by_cases el:s.length=8+16*d.nodes+12*d.arcs.length;rotate_left
 . have ac: ¬((s.length:Nat):Int)=((8+16*d.nodes+12*d.arcs.length:Nat):Int):=(by omega);simp only [BZ,cw,ac,c1,c2,w1,w2,w3,w4,seval];refine H (ρ:=fun _=>.nilIface) S (fun h=>el (e.1 h).2.2.2) fun h g=>?_;simp only [BZ];exact cg (cy ⟨rfl,g,.inr ⟨fun h=>el (e.1 h.1).2.2.2,rfl⟩⟩)
 have hB:jM s:=e.2 ⟨h8,by omega,by omega,el⟩;have hR:=O hB;have al:=hR.n2;have an:=hR.many;simp only [BZ,cw,el,c1,c2,w1,w2,w3,w4,seval];refine ar (iU S.ok) ?_;intro h g;replace S:=S.call g;simp only [BZ,seval];refine ag ay S ?_;clear S;intro h I S ak;simp only [BZ,seval];refine au (stA S (i:=0) Tryz.t7.2.1) ?_;clear S;rintro h ⟨S,C⟩;clear C;simp only [LC,ae,lay,Xo,Xp,seval]at S;simp only [BZ,seval];replace S:=(S.nilG (k:=1)).nilG (k:=1);refine aD (fun(k:Nat) ρ h=>k<=d.nodes/\ ∃J M:Value,St NoM D h [(I,.row [.int .i64 d.nodes,J,M,.slice none 0 0] 1),(Q,.row [.func (.func 190) #[] #[ptrTo Z]] 1),(Z,.row [ptrTo f] 1),(f,.row (rdC s (8+16*k) (.pointer none)) 1)] [(J,1,ints ((zM k).map (xAt s))),(M,1,ints ((zM k).map (yAt s)))]/\
  ρ 3=ptrTo f/\ρ 4=ptrTo Q/\ρ 6=.int .i64 d.arcs.length/\ρ 7=ptrTo I/\ρ 42=.int .i64 d.nodes/\ρ 43=.int .i64 k) (fun k=>d.nodes-k) ?_ 0 _ _ ⟨Xg _,_,_,S,by simp [ao,ah]⟩
 clear S;intro k ih ρ h ⟨hk,J,M,S,r3,r4,r6,r7,r42,r43⟩;have w:am .i64 ((k:Int)+1)=((k+1:Nat):Int):=by rw [wrap64]<;>omega
 have fX:Fl J:=(S.gown _ m0).1.fl;have fY:Fl M:=(S.gown _ m1).1.fl;by_cases hlt:k<d.nodes
 . simp only [BZ,r42,r43,aq,hlt,seval];have R:=note_gl S m0 m0;refine av (aB rfl) (q:=1040) (ps:=[(7,9),(5,7),(3,7),(1,3)]) (by kernel_rfl) ?_;simp only [BZ,cls,r3,r7,S.ld (b:=I) (o:=1) m0 rfl,seval];refine cF (xh (bad:=false) (s:=s) (a:=8+16*k) (St.init1 S.ok (S.own (f,.row (rdC s (8+16*k) (.pointer none)) 1) m3).2) (i:=0) rfl rfl (by omega) P) ?_;rintro _ h ⟨rfl,f',r,T⟩;rw [c6 (by omega)]at r T⊢;obtain rfl:f'=.pointer none:=r.1;simp only [Xt]at T;have E:=fu S (i:=0) (j:=3) rfl rfl (by decide) T.fr;replace S:=S.call1 (i:=3) rfl T.fr (T.own _ m0).2;simp only [LC,zO,Xi]at S;clear T;simp only [BZ,cls,seval];refine dR (bD (by exact t23.1) (by exact X8) (by decide) (by rfl)) S ?_;clear S;intro h U S V W;simp only [LC,bA,bN,ae,Xs,Xd,Xr,Xy,seval]at S;simp only [BZ,cls,seval];have A:aF h 1 (.slice (some ⟨U,0,none⟩) 1 1)=some (1,ints [xAt s k]):=(by simp only [aF];rw [S.lds (b:=U) (o:=0) (n:=1*1) m0 (lbt rfl)];rfl);replace S:=S.drop1;refine jo (S.grow (j:=0) (m:=1) (new:=ints [xAt s k]) rfl t23.1 X8 (by decide) t23.2.2.2.2.2 A rfl (by decide) rfl (by rw [bR,bR];simp;omega)) ?_;clear S A;rintro h X S;simp only [LC]at S;rw [<-fk,show(zM k).map (xAt s)++[xAt s k]=(zM (k+1)).map (xAt s) by rw [XT,XQ];rfl]at S;simp only [BZ,cls,r3,r7,S.ld (b:=I) (o:=2) m0 rfl,seval];refine cF (xh (bad:=false) (s:=s) (a:=8+16*k+8) (St.init1 S.ok (S.own (f,.row (rdC s (8+16*k+8) (.pointer none)) 1) m3).2) (i:=0) rfl rfl (by omega) P) ?_;rintro _ h ⟨rfl,f',r,T⟩;rw [c6 (by omega)]at r T⊢;obtain rfl:f'=.pointer none:=r.1;simp only [Xt]at T;have F:=fu S (i:=0) (j:=3) rfl rfl (by decide) T.fr;replace S:=S.call1 (i:=3) rfl T.fr (T.own _ m0).2;simp only [LC,zO,Xi]at S;clear T;simp only [BZ,cls,seval];refine dR (bD (by exact t23.1) (by exact X8) (by decide) (by rfl)) S ?_;clear S;intro h U S V W;simp only [LC,bA,bN,ae,Xs,Xd,Xr,Xy,seval]at S;simp only [BZ,cls,seval];have A:aF h 1 (.slice (some ⟨U,0,none⟩) 1 1)=some (1,ints [yAt s k]):=(by simp only [aF];rw [S.lds (b:=U) (o:=0) (n:=1*1) m0 (lbt rfl)];rfl);replace S:=S.drop1;refine jo (S.grow (j:=1) (m:=1) (new:=ints [yAt s k]) rfl t23.1 X8 (by decide) t23.2.2.2.2.2 A rfl (by decide) rfl (by rw [bR,bR];simp;omega)) ?_;clear S A;rintro h Y S;simp only [LC]at S;rw [<-fk,show(zM k).map (yAt s)++[yAt s k]=(zM (k+1)).map (yAt s) by rw [XT,XQ];rfl]at S;have aL:Fl X:=(S.gown _ m0).1.fl;have a0:Fl Y:=(S.gown _ m1).1.fl;rw [show 8+16*k+8+8=8+16*(k+1) by omega]at S;simp only [BZ,cls,r7,seval];refine dM (aw S (i:=0) rfl ?_ ?_ ?_ ono) ?_
   . exact(by simp only [FA0])
   . exact(by assumption)
   . exact Xb (lbt rfl)
   clear S;rintro h ⟨S,C⟩;clear C;simp only [LC,ae,lay,Xo,Xp,seval]at S;simp only [BZ,cls,r7,seval];refine dM (aw S (i:=0) rfl ?_ ?_ ?_ ono) ?_
   . exact(by simp only [FA0])
   . exact(by assumption)
   . exact Xb (lbt rfl)
   clear S;rintro h ⟨S,C⟩;clear C;simp only [LC,ae,lay,Xo,Xp,seval]at S;simp only [BZ,r43,seval];refine⟨?_,?_⟩
   . rcases R with R|⟨c,R,nc⟩
     . simp only [aR,aZ,aM,bo,aP,ne_eq,not_false_eq_true,bj,bH,aQ,aO,bS,cq,az,Xl,r3,r7,ah,aG E,aJ E,aG F,aJ F,uz,R,kQ,sK,pair_n,vI,seval]
     . simp only [aR,aZ,aM,bo,aP,ne_eq,not_false_eq_true,bj,bH,aQ,aO,bS,cq,az,Xl,r3,r7,ah,aG E,aJ E,aG F,aJ F,uz,R,iu nc,seval]
   simp only [w];exact ih (k+1) _ _ (by omega) ⟨by omega,X,Y,S,by simp [ao,r3,r4,r6,r7,r42]⟩
 . have ad:k=d.nodes:=(by omega);subst ad;rw [<-eX,<-eY]at S;simp only [BZ,r4,r6,r42,r43,aq,hlt,seval];have ha: ∀k,(f,Ob.row (rdC s (8+16*d.nodes+12*k) (.pointer none)) 1)=(f,Ob.row (rdC s (8+16*d.nodes+12*k) (.pointer none)) 1):=fun _=>rfl;refine step_ret (someA_ok (val:=aAt s d.nodes) (fun k=>[(I,.row [.int .i64 d.nodes,J,M,.slice none 0 0] 1),(Q,.row [.func (.func 190) #[] #[ptrTo Z]] 1),(Z,.row [ptrTo f] 1),(f,.row (rdC s (8+16*d.nodes+12*k) (.pointer none)) 1)]) S (n:=d.arcs.length) (by omega) ?_) ?_
   . clear S;intro k p h hk S;refine iz (graph1_ok S (j:=4) (s:=s) (a:=8+16*d.nodes+12*k) (S.ld m2 rfl) (S.ld m3 rfl) (S.ne (i:=2) (j:=4) rfl rfl (by decide)) (S.ne (i:=3) (j:=4) rfl rfl (by decide)) rfl (by omega) P) ?_;rintro _ h' ⟨rfl,S⟩;exact⟨rfl,S⟩
   rintro _ h ⟨bl,rfl,S⟩;rw [<-eA]at S;simp only [BZ,r7,seval];refine au (aw S (i:=1) rfl ?_ ?_ ?_ ono) ?_
   . exact(by simp only [FA0])
   . exact(by exact bW)
   . exact Xb (lbt rfl)
   clear S;rintro h ⟨S,C⟩;clear C;simp only [LC,ae,lay,Xo,Xp,seval]at S;simp only [BZ,r7,XA,XI,Xm,S.lds (b:=I) (o:=0) (n:=4) m1 (lbt rfl),seval];have N:cL h J M (.slice (some ⟨bl,0,none⟩) d.arcs.length d.arcs.length) d:=⟨(S.gown _ m0).1.sl rfl (aE .i64) (by decide),(S.gown _ m1).1.sl rfl (aE .i64) (by decide),.inr ⟨bl,0,none,_,rfl,XB _,by
    have:=S.lds (b:=bl) (o:=0) (n:=d.arcs.length*3) m0 (by rw [aK dD];omega);rw [Xm,Xx (by rw [aK dD];omega)]at this;exact this⟩⟩
   refine step_ret (AW S.ok hR N) ?_;rintro _ h ⟨g,⟨hG,rfl⟩|⟨hG,t,x,rfl⟩⟩;rotate_left
   . replace S:=S.call g;simp only [BZ,seval];refine ce (hZ S.ok) ?_;rintro o rc h ⟨rfl,rfl,g⟩;simp only [BZ];exact cg (cy ⟨rfl,S.gr.trans g,.inr ⟨fun h=>hG h.2,rfl⟩⟩)
   have af:=hR.good hG;replace S:=S.call g;replace N:=N.gr g;clear g;simp only [BZ,seval];refine ar (iU S.ok) ?_;intro h g;replace S:=S.call g;replace N:=N.gr g;clear g;simp only [BZ,r7,XA,XI,Xm,S.lds (b:=I) (o:=0) (n:=4) m1 (lbt rfl),seval];have nn:Ret zB 14 [gc d J M (.slice (some ⟨bl,0,none⟩) d.arcs.length d.arcs.length)] _ _:=AI S.ok af N;have gS:=S.gr;refine step_ret nn ?_;rintro _ h ⟨v,rfl,g,hN⟩;replace S:=S.call g;simp only [BZ,seval];refine ar (iU S.ok) ?_;intro h g;replace S:=S.call g;replace hN:=hN.gr g;clear g;simp only [BZ,seval];refine Dv (by decide) ?_;simp only [az,seval];exact⟨trivial,S.gr,.inl ⟨hB,hG,_,_,rfl,gS.n,hN⟩⟩
end Go.Ab

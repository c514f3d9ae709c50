/- Nets, cells, flags: what the functions do (part 3). -/
import Derived.Test.YtnandelhggbchaaGreatDoorNetB
open Go.Ab.Tryz
open Go.Ab.Tryz renaming abEnv->zj,e3E->zT,e85->Xj,e2E->Xk
open Nat renaming le_trans->zk,lt_of_succ_le->zp,zero_le->zw,mul_one->zx,lt_of_lt_of_le->zy,zero_mul->zz,zero_add->zF,one_mul->zJ,le_refl->zU,min_eq_left->Xi
open List renaming getD_eq_getElem?_getD->zl,getElem?_eq_getElem->zo,take->zt,drop->zu,flatMap_eq_foldl->zC,replicate->zD,range->zG,length_take->zH,drop_zero->zI,take_succ_eq_append_getElem->zK,all_cons->zM,mem_append_right->zO,all_nil->zP,take_succ_cons->zQ,length_map->zR,getElem_mem->zV,mem_cons_of_mem->zY,take_append_of_le_length->zZ,map_eq_flatMap->z7,take_zero->z8,map_cons->z9,getElem?_map->Xb,flatMap_cons->Xc,length_range->Xd,getElem?_append_left->Xe,not_mem_nil->Xf,take_length->Xg,append_nil->Xh,mem_append_left->Xl,mem_cons->Xm,map_nil->Xn
open Bool renaming and_true->zn
open Int renaming cast_ofNat_Int->zq,eq_ofNat_of_zero_le->zL,toNat_natCast->zN,tmod_eq_emod_of_nonneg->Xa
open Option renaming map_some->zW,map_none->zX
set_option maxHeartbeats 4000000
set_option linter.defProp false
set_option linter.unusedVariables false
set_option linter.unusedSimpArgs false
section
namespace Go.Ab
open Go.Proofs
set_option maxRecDepth 10000
def Tryz.FN:=aj t1<|aj t2<|aj t3<|aj t4<|aj t5<|aj t6<|aj t33<|t161
def Tryz.F0s:=aj t3<|aj t33<|t161
def Tryz.F0t:=aj t1<|aj t2<|aj t3<|aj t4<|t33
def Tryz.F0u:=aj t1<|aj t2<|aj t3<|aj t33<|t161
def fk(l:List Nat):List Value:=l.map fun(x:Nat)=>.int .i64 x
theorem tv(l:List Nat):l.flatMap cI=fk l:=by
 unfold fk;rw [zC,z7,zC];rfl
theorem oR(l:List Nat):(fk l).length=l.length:=by simp [fk]
theorem natM_at{l:List Nat}{i:Nat}(h:i<l.length):(fk l)[i]? =some (.int .i64 (l.getD i 0:Nat)):=by
 unfold fk;rw [Xb,zo h];simp [zl,h]
theorem xc(l:List Nat)(i x:Nat):(fk l).set i (.int .i64 (x:Nat))=fk (l.set i x):=by unfold fk;rw [List.map_set]
theorem wz{a b:Int}:ji a b<0↔a<b:=by
 unfold ji
 split
 . omega
 . split<;>omega
def CmpF(E:Env)(b:Hp)(g:FuncId)(a:List Value)(N:Nat)(key:Nat->Int):Prop:= ∀h,Gr b h-> ∀i j,i<N->j<N->aW E g ([.int .i64 (i:Nat),.int .i64 (j:Nat)]++a) h (.int .i64 (ji (key j) (key i)))
theorem zf {r h0:Hp} (B:Gr r h0) {b N:Nat} {xs:List Nat} {g:FuncId} {a:Array Value} {key:Nat->Int} (s:Row h0 b (fk xs) 1) (U:r.n<=b) (V:xs.length<=20) (C: ∀x∈xs,x<N) (I:CmpF zj r g a.toList N key):
 Ret zj 255 [.slice (some ⟨b,0,some 1⟩) xs.length xs.length,.int .i64 0,.int .i64 (xs.length:Nat),.func (.func g) #[] a] h0 fun _ D=>Mo (· =b) h0 D/\Row D b (fk (gC key (xs.length-1) xs)) 1:=by
 have J:=B.ok
 have S:=St.init1 J (o:=.row _ 1) s
 have W:au .i64 (0+1)=((0+1:Nat):Int):=rfl
 refine ag (n:=53) (rs:=[]) rfl Tryz.e255 rfl rfl rfl (lbt rfl) ?_
 simp only [BS,LB,Nat.reduceLT,Nat.reduceEqDiff,Int.reduceAdd]
 refine bg (fun(i:Nat) d h=>i<=xs.length-1/\St (· =b) h0 h [(b,.row (fk (gC key i xs)) 1)] []/\d 0=.slice (some ⟨b,0,some 1⟩) xs.length xs.length/\d 1=.int .i64 0/\d 2=.int .i64 (xs.length:Nat)/\d 3=.func (.func g) #[] a/\d 8=.int .i64 ((i+1:Nat):Int)) (fun i=>xs.length-i) ?_ 0 _ _ ?_
 . clear S
   intro i E d h ⟨hi,S,r0,r1,r2,r3,r8⟩
   by_cases hlt:i+1<xs.length
   . simp only [BS,LB,Nat.reduceLT,Nat.reduceEqDiff,r2,r8,aI,hlt]
     have t:=nA (key:=key) (l:=xs) i (.inl (by omega))
     refine bg (fun(j:Nat) d h=>j<=i+1/\ ∃l,l.Perm xs/\bub key j l=bub key (i+1) (gC key i xs)/\St (· =b) h0 h [(b,.row (fk l) 1)] []/\d 0=.slice (some ⟨b,0,some 1⟩) xs.length xs.length/\d 1=.int .i64 0/\d 2=.int .i64 (xs.length:Nat)/\d 3=.func (.func g) #[] a/\d 8=.int .i64 ((i+1:Nat):Int)/\d 9=.int .i64 (j:Nat)) (fun j=>j) ?_ (i+1) _ _ ?_
     . clear S r0 r1 r2 r3 r8
       intro j u d h ⟨hj,l,pm,hbub,S,r0,r1,r2,r3,r8,r9⟩
       have X:=pm.length_eq
       have F:au .i64 (((i+1:Nat):Int)+1)=((i+1+1:Nat):Int):=by rw [wrap64]<;>omega
       by_cases K:0<j
       . obtain⟨k,rfl⟩: ∃k,j=k+1:=⟨j-1,by omega⟩
         have G:(0:Int)<((k+1:Nat):Int):=by omega
         have v:au .i64 (((k+1:Nat):Int)-1)=(k:Int):=by rw [wrap64]<;>omega
         have H:k+1<xs.length:=by omega
         have w:k<xs.length:=by omega
         have f:=(S.row (b:=b) m0).load1 (natM_at (i:=k+1) (by omega))
         have m:=(S.row (b:=b) m0).load1 (natM_at (i:=k) (by omega))
         have L:l.getD (k+1) 0<N:=by
          refine C _ (pm.mem_iff.1 ?_)
          rw [zl,zo (by omega)];exact zV _
         have O:l.getD k 0<N:=by
          refine C _ (pm.mem_iff.1 ?_)
          rw [zl,zo (by omega)];exact zV _
         simp only [BS]
         refine aE (aK rfl) (q:=0) (ps:=[]) (by kernel_rfl) ?_
         simp only [BS,LB,cls,Nat.reduceLT,Nat.reduceEqDiff,Nat.reduceAdd,Nat.reducePow,Nat.reduceDiv,Nat.reduceMod,Nat.reduceLeDiff,FN,r0,r1,r3,r9,G,v,H,w,f,m]
         refine dg (I _ (((B.fr (M:=NoM)).trans S.fr (fun c e=>.inr (by omega))).gr) _ _ L O) ?_
         intro h y
         replace S:=S.call y
         by_cases p:key (l.getD k 0)<key (l.getD (k+1) 0)
         . have z:ji (key (l.getD k 0)) (key (l.getD (k+1) 0))<0:=wz.2 p
           replace f:=y.load f
           replace m:=y.load m
           simp only [BS,LB,cls,Nat.reduceLT,Nat.reduceEqDiff,Nat.reduceAdd,Nat.reducePow,Nat.reduceDiv,Nat.reduceMod,Nat.reduceLeDiff,z]
           refine aE (aK rfl) (q:=0) (ps:=[]) (by kernel_rfl) ?_
           simp only [BS,LB,cls,Nat.reduceLT,Nat.reduceEqDiff,Nat.reduceAdd,Nat.reducePow,Nat.reduceDiv,Nat.reduceMod,Nat.reduceLeDiff,FN,r0,r9,v,H,w,f,m]
           refine cU (aC S (i:=0) rfl Tryz.t3.2.2.1 bI (by rw [oR];omega) ono) ?_
           clear S;rintro Y ⟨S,P⟩
           simp only [LC]at S
           simp only [BS,LB,cls,Nat.reduceLT,Nat.reduceEqDiff,Nat.reduceAdd,Nat.reducePow,Nat.reduceDiv,Nat.reduceMod,Nat.reduceLeDiff,FN,w]
           refine cU (aC S (i:=0) rfl Tryz.t3.2.2.1 bI (by rw [List.length_set,oR];omega) ono) ?_
           clear S;rintro Z ⟨S,Q⟩
           simp only [LC]at S
           rw [xc,xc]at S
           simp only [BS,LB,Nat.reduceLT,Nat.reduceEqDiff,Nat.reduceAdd,r9,v]
           have e:bub key (k+1) l=bub key k (swJ l (k+1)):=by
            show(if _ then _ else _)=_
            rw [if_pos p]
           exact u k _ _ (by omega) ⟨by omega,swJ l (k+1),(wp (by omega)).trans pm,by rw [<-e];exact hbub,S,by simp [ab,r0],by simp [ab,r1],by simp [ab,r2],by simp [ab,r3],by simp [ab,r8],by simp [ab]⟩
         . have z: ¬ji (key (l.getD k 0)) (key (l.getD (k+1) 0))<0:=fun h=>p (wz.1 h)
           have e:bub key (k+1) l=l:=by
            show(if _ then _ else _)=_
            rw [if_neg p]
           rw [e]at hbub
           simp only [BS,LB,cls,Nat.reduceLT,Nat.reduceEqDiff,Nat.reduceAdd,Nat.reducePow,Nat.reduceDiv,Nat.reduceMod,Nat.reduceLeDiff,r8,z,F]
           exact E (i+1) _ _ (by omega) ⟨by omega,by rw [nv,<-hbub];exact S,by simp [ab,r0],by simp [ab,r1],by simp [ab,r2],by simp [ab,r3],by simp [ab]⟩
       . have R:j=0:=by omega
         subst R
         have A:l=bub key (i+1) (gC key i xs):=hbub
         have G: ¬(0:Int)<((0:Nat):Int):=by omega
         simp only [BS]
         refine aE (aK rfl) (q:=0) (ps:=[]) (by kernel_rfl) ?_
         simp only [BS,LB,cls,Nat.reduceLT,Nat.reduceEqDiff,Nat.reduceAdd,Nat.reducePow,Nat.reduceDiv,Nat.reduceMod,Nat.reduceLeDiff,Int.reduceLT,zq,r1,r8,r9,F]
         exact E (i+1) _ _ (by omega) ⟨by omega,by rw [nv,<-A];exact S,by simp [ab,r0],by simp [ab,r1],by simp [ab,r2],by simp [ab,r3],by simp [ab]⟩
     . exact⟨zU _,_,t,rfl,S,by simp [ab,r0],by simp [ab,r1],by simp [ab,r2],by simp [ab,r3],by simp [ab,r8],by simp [ab]⟩
   . simp only [BS,LB,Nat.reduceLT,Nat.reduceEqDiff,r2,r8,aI,hlt]
     have T:i=xs.length-1:=by omega
     subst T
     exact⟨S.fr,S.row m0⟩
 . exact⟨zw _,S,by simp [ab,cC],by simp [ab,cC],by simp [ab,cC],by simp [ab,cC],by simp [ab];rfl⟩
theorem stable_ok{c h0:Hp}(e:Gr c h0){b N:Nat}{xs:List Nat}{g:FuncId}{a:Array Value}{key:Nat->Int}(d:Row h0 b (fk xs) 1)(j:c.n<=b)(q:xs.length<20)(k: ∀x∈xs,x<N)(l:CmpF zj c g a.toList N key):
 Ret zj 222 [.slice (some ⟨b,0,some 1⟩) xs.length xs.length,.int .i64 (xs.length:Nat),.func (.func g) #[] a] h0 fun _ i=>Mo (· =b) h0 i/\Row i b (fk (gC key (xs.length-1) xs)) 1:=by
 have m:=e.ok
 have o: ¬(20:Int)<=(xs.length:Int):=by omega
 have p: ¬(20:Int)<(xs.length:Int):=by omega
 have S:=Si m
 refine ag (n:=63) (rs:=[]) rfl Tryz.e222 rfl rfl rfl (lbt rfl) ?_
 simp only [BS,LB,Nat.reduceLT,Nat.reduceEqDiff]
 rw [ce]
 simp only [BS,LB,Nat.reduceLT,Nat.reduceEqDiff,o]
 refine step_ret (zf e d j (by omega) k l) ?_
 rintro r h ⟨f,R⟩
 simp only [BS]
 rw [ce]
 simp only [BS,LB,Nat.reduceLT,Nat.reduceEqDiff,p]
 exact⟨f,R⟩
theorem uF{c h0:Hp}(f:Gr c h0){b N:Nat}{xs:List Nat}{g:FuncId}{a:Array Value}{key:Nat->Int}(d:Row h0 b (fk xs) 1)(i:c.n<=b)(j:xs.length<20)(k: ∀x∈xs,x<N)(l:CmpF zj c g a.toList N key):
 Ret zj 158 [.slice (some ⟨b,0,some 1⟩) xs.length xs.length,.func (.func g) #[] a] h0 fun _ e=>Mo (· =b) h0 e/\Row e b (fk (gC key (xs.length-1) xs)) 1:=by
 refine ag (n:=9) (rs:=[]) rfl Tryz.e158 rfl rfl rfl (lbt rfl) ?_
 simp only [BS,LB,Nat.reduceLT,Nat.reduceEqDiff,F0s]
 refine step_ret (stable_ok f d i j k l) ?_
 rintro r h q
 simp only [BS]
 exact q
theorem wZ{h0:Hp}(k:h0.t.Sized h0.n){v:Value}{xs:List Nat}(l:ax h0 1 cI v xs)(x:xs.length<1000000)(f:xs≠ []):Ret zj 55 [v] h0 fun r d=>Gr h0 d/\ ∃b,r=.slice (some ⟨b,0,some 1⟩) xs.length xs.length/\Row d b (fk xs) 1/\h0.n<=b:=by
 have S:=Si k
 rcases l with⟨_,rfl⟩|⟨b,o,s,c,rfl,m,p⟩
 . exact absurd rfl f
 . refine ag (n:=8) (rs:=[.tmp 2]) rfl Tryz.e55 rfl rfl rfl (lbt rfl) ?_
   simp only [BS,LB,Nat.reduceLT,Nat.reduceEqDiff,F0t]
   refine am (bW (by exact Tryz.t33.1) (by exact zT) (by decide) (by rfl)) S ?_;clear S;intro h y S i;simp only [LC,aV,bJ,ah,Nat.reduceMul,Nat.reduceAdd,zz,zF,zx,zJ]at S
   simp only [BS,LB,Nat.reduceLT,Nat.reduceEqDiff]
   have q:=S.fr.n
   refine dQ (S.cloneW (enc:=cI) (ys:=xs) Tryz.t33.1 zT (by decide) Tryz.t33.2.2.2.2.2 (.inr ⟨b,o,s,c,rfl,m,S.old p (fun h=>h)⟩) jo (by decide) (by omega) (S.row m0)) ?_
   rintro d v ⟨t,g,z,u,w⟩
   obtain⟨j,rfl,a⟩:=w f
   simp only [BS,LB,ae,Nat.reduceLT,Nat.reduceEqDiff]
   rw [tv]at a
   exact⟨t.gr,j,rfl,a,(u j rfl).elim (fun e=>by omega) (fun e=>zk q e)⟩
theorem first_ok{k h0:Hp}(o:Gr k h0){N:Nat}{v:Value}{xs:List Nat}{g:FuncId}{d:Array Value}{key:Nat->Int}(y:ax h0 1 cI v xs)(i:xs≠ [])(z:xs.length<20)(A: ∀x∈xs,x<N)(j:CmpF zj k g d.toList N key){m:Nat}(F:1<=m):
 Ret zj 82 [v,.int .i64 (m:Nat),.func (.func g) #[] d] h0 fun r t=>Gr h0 t/\ax t 1 cI r ((gC key (xs.length-1) xs).take (min m xs.length))/\ ∀c,av r c->h0.n<=c:=by
 have B:=o.ok
 have C:min (m:Int) (xs.length:Int)=((min m xs.length:Nat):Int):=by omega
 have u:=nA (key:=key) (l:=xs) (xs.length-1) (by cases xs with|nil=>exact absurd rfl i|cons a l=>simp)
 have S:=Si B
 refine ag (n:=18) (rs:=[.tmp 6]) rfl Tryz.e82 rfl rfl rfl (lbt rfl) ?_
 simp only [BS,LB,Nat.reduceLT,Nat.reduceEqDiff]
 refine step_ret (wZ S.ok y (by omega) i) ?_
 rintro r h ⟨w,b,rfl,p,D⟩
 have q:k.n<=b:=zk o.n D
 simp only [BS,LB,Nat.reduceLT,Nat.reduceEqDiff]
 refine step_ret (uF (o.trans w) p q z A j) ?_
 rintro r G ⟨f,R⟩
 have E:=vS (kd:=.i64) (b:=b) (len:=xs.length) (n:=min m xs.length) Tryz.t33.1 Tryz.t3.2.2.1 (cap:=xs.length) (Nat.min_le_right _ _)
 simp only [BS,LB,ae,Nat.reduceLT,Nat.reduceEqDiff,zW,zX,F0u,C,E]
 refine⟨((w.fr (M:=NoM)).trans f (fun c e=>.inr (by omega))).gr,?_,fun c j=>by have j:b=c:=j;omega⟩
 have s:((gC key (xs.length-1) xs).take (min m xs.length)).length=min m xs.length:=by rw [zH,u.length_eq];omega
 refine .inr ⟨b,0,some 1,xs.length,by rw [s],by rw [s];exact Nat.min_le_right _ _,?_⟩
 rw [s,R.load (by rw [oR,u.length_eq];omega),tv,zI,zx]
 unfold fk
 rw [List.map_take]
def Tryz.FE:=aj t1<|aj t2<|aj t3<|aj t4<|aj t5<|aj t6<|aj Z2<|aj Z5<|aj t9<|aj t10<|aj t20<|aj t33<|t142
theorem repI_ok{h0:Hp}(u:h0.t.Sized h0.n){v:Value}{x:Int}{N:Nat}(y:ax h0 1 (encI .i64) v [x])(a:1<=N)(z:N<1000):Ret zj 211 [v,.int .i64 N] h0 fun r p=>Gr h0 p/\ ∃b,r=.slice (some ⟨b,0,none⟩) N N/\h0.n<=b/\Row p b (zD N (.int .i64 x)) 1:=by
 have S:=Si u
 have A: ¬((N:Int)<0):=by omega
 have B: ¬((9223372036854775807:Int)<(N:Int)):=by omega
 have C:au .u64 (N:Int)=(N:Int):=wrapUn (by omega) (by omega)
 have D:au .u64 1=1:=rfl
 have E:au .i64 (N:Int)=(N:Int):=by rw [wrap64]<;>omega
 obtain⟨K,L,M,O,rfl,F,G⟩: ∃b o s c,v=.slice (some ⟨b,o,s⟩) 1 c/\1<=c/\h0.load b o 1=some [.int .i64 x]:=by
  rcases y with⟨_,h⟩|⟨b,o,s,c,rfl,H,I⟩
  . cases h
  . exact⟨b,o,s,c,rfl,H,I⟩
 refine ag (n:=48) (rs:=[.tmp 4]) rfl Tryz.e211 rfl rfl rfl (lbt rfl) ?_
 simp only [BS,LB,jK,ct,jR,Nat.reduceLT,Nat.reduceEqDiff,zq,FE,A,C,D]
 refine ar (mul_ok S.ok z) ?_;intro h g;replace S:=S.call g;clear g
 simp only [BS,LB,jK,ct,jR,Nat.reduceLT,Nat.reduceEqDiff,Int.reduceLT,FE,B,E]
 refine am (nZ (by exact Tryz.t33.1) (by exact zT) (by omega) (by omega)) S ?_;clear S;intro h j S d
 rw [zN,xa]at S
 simp only [BS,LB,Nat.reduceLT,Nat.reduceEqDiff,zN]
 refine dQ (S.copyO (i:=0) (l:=zD 1 (.int .i64 x)) rfl Tryz.t33.1 Tryz.t3.2.2.1 (by rw [nQ a];decide) (by rw [nQ a];exact S.old G (fun h=>h)) (by simp;omega) rfl) ?_
 clear S;rintro h w ⟨rfl,S⟩
 simp only [LC]at S
 rw [show zD N (Value.int .i64 0)=zD 0 (.int .i64 x)++zD N (.int .i64 0) by simp,lay_rep a]at S
 rw [nQ a]
 simp only [BS,LB,Nat.reduceLT,Nat.reduceEqDiff,zq]
 refine bg (fun(n:Nat) m h=>1<=n/\n<=N/\St NoM h0 h [(j,.row (zD n (.int .i64 x)++zD (N-n) (.int .i64 0)) 1)] []/\m 7=.slice (some ⟨j,0,none⟩) N N/\m 8=.int .i64 n) (fun n=>N-n) ?_ 1 _ _ ?_
 . clear S
   intro n J m h ⟨hn1,hn,S,r7,r8⟩
   by_cases hlt:n<N
   . simp only [BS,LB,Nat.reduceLT,Nat.reduceEqDiff,FE,r7,r8,aI,hlt]
     refine aE (aK rfl) (q:=0) (ps:=[]) (by kernel_rfl) ?_
     simp only [BS,LB,cls,Nat.reduceLT,Nat.reduceEqDiff,Nat.reduceAdd,Nat.reducePow,Nat.reduceDiv,Nat.reduceMod,Nat.reduceLeDiff,zW,zX,r7,r8,slice_lo Tryz.t33.1 Tryz.t3.2.2.1 hlt,slice_hi0 Tryz.t33.1 Tryz.t3.2.2.1 (Nat.le_of_lt hlt)]
     have t:0<dR n (N-n):=by
      rcases Nat.le_total n (N-n)with h|h
      . rw [nQ h];omega
      . rw [nmin_ge h];omega
     have f:dR n (N-n)<=N-n/\dR n (N-n)<=n:=by
      rcases Nat.le_total n (N-n)with h|h
      . rw [nQ h];omega
      . rw [nmin_ge h];omega
     refine dn_v (S.copyO (i:=0) (l:=zD (dR n (N-n)) (.int .i64 x)) rfl Tryz.t33.1 Tryz.t3.2.2.1 t ?_ (by simp;omega) (by simp;right;rfl)) ?_
     . rw [(S.row m0).load (by simp;omega),zx,zI]
       congr 1
       rw [zZ (by simp;omega),List.take_replicate]
       congr 1
       omega
     clear S;rintro h w ⟨rfl,S⟩
     simp only [LC]at S
     rw [lay_rep f.1]at S
     generalize dR n (N-n)=k at S t f
     have w:au .i64 ((n:Int)+(k:Int))=((n+k:Nat):Int):=by rw [wrap64]<;>omega
     simp only [BS,LB,cls,Nat.reduceLT,Nat.reduceEqDiff,Nat.reduceAdd,Nat.reducePow,Nat.reduceDiv,Nat.reduceMod,Nat.reduceLeDiff,w]
     exact J (n+k) _ _ (by omega) ⟨by omega,by omega,by rw [show N-(n+k)=N-n-k by omega];exact S,by simp [ab,r7],by simp [ab]⟩
   . simp only [BS,LB,ae,Nat.reduceLT,Nat.reduceEqDiff,FE,r7,r8,aI,hlt]
     have e:n=N:=by omega
     subst e
     have R:=S.row (b:=j) m0
     rw [Nat.sub_self,List.replicate_zero,Xh]at R
     exact⟨S.gr,j,rfl,d,R⟩
 . exact⟨zU _,a,by simpa using S,by simp [ab],by simp [ab]⟩

theorem ints_set(l:List Int)(i:Nat)(x:Int):(ints l).set i (.int .i64 x)=ints (l.set i x):=by
 have e4: ∀l:List Int,ints l=l.map fun x=>Value.int .i64 x:=fun l=>by
  unfold ints;rw [zC,z7,zC];rfl
 rw [e4,e4,List.map_set]
def seen(A:List Arc)(b c:Arc->Nat):List Arc:=A.map fun a=>⟨b a,c a,a.w⟩

def Tryz.F0v:=aj t1<|t2
def wy(x:Int):Int:=min (max x 0) 72057594037927936
theorem xl{h0:Hp}(c:h0.t.Sized h0.n){a b:Nat}{x:Int}(d:h0.load a 0 1=some [.int .i64 0])(e:h0.load b 0 1=some [.int .i64 72057594037927936]):aW zj 267 [.int .i64 x,ptrTo a,ptrTo b] h0 (.int .i64 (wy x)):=by
 have S:=Si c
 refine ag (n:=10) (rs:=[.tmp 4]) rfl Tryz.e267 rfl rfl rfl (lbt rfl) ?_
 simp only [BS,LB,ae,Nat.reduceLT,Nat.reduceEqDiff,F0v,d,e]
 exact⟨rfl,S.gr⟩
theorem yx{h0:Hp}(f:h0.t.Sized h0.n):Ret zj 249 [.int .i64 0,.int .i64 72057594037927936] h0 fun v h=>Gr h0 h/\ ∃a b,v=.func (.func 267) #[] #[ptrTo a,ptrTo b]/\h.load a 0 1=some [.int .i64 0]/\h.load b 0 1=some [.int .i64 72057594037927936]:=by
 have S:=Si f
 refine ag (n:=6) (rs:=[.tmp 4]) rfl Tryz.e249 rfl rfl rfl (lbt rfl) ?_
 simp only [BS,Nat.reduceLT]
 refine am (bE (by intro x e;cases e)) S ?_;clear S;intro h a S c;simp only [ah]at S
 simp only [BS,Nat.reduceLT,Nat.reduceEqDiff,if_false]
 refine am (bE (by intro x e;cases e)) S ?_;clear S;intro h b S d;simp only [ah]at S
 simp only [BS,LB,ae,Nat.reduceLT,Nat.reduceEqDiff]
 exact⟨S.gr,a,b,rfl,S.ld m1 rfl,S.ld m0 rfl⟩
theorem se{h0:Hp}(a:h0.t.Sized h0.n){x:Int}:aW zj 208 [.int .i64 x] h0 (.int .i64 (wy x)):=by
 have S:=Si a
 refine ag (n:=6) (rs:=[.tmp 2]) rfl Tryz.e208 rfl rfl rfl (lbt rfl) ?_
 simp only [BS,LB]
 refine step_ret (yx S.ok) ?_;intro v h ⟨g,b1,b2,e,e1,e2⟩;replace S:=S.call g;clear g
 subst e
 simp only [BS,LB,Nat.reduceLT,Nat.reduceEqDiff]
 refine ar (xl S.ok e1 e2) ?_;intro h g;replace S:=S.call g;clear g
 simp only [BS,LB,ae,Nat.reduceLT,Nat.reduceEqDiff]
 exact S.gr
theorem ux{h0:Hp}(a:h0.t.Sized h0.n){x:Int}:aW zj 207 [.int .i64 x] h0 (.bool (decide (wy x<72057594037927936))):=by
 have S:=Si a
 refine ag (n:=6) (rs:=[.tmp 2]) rfl Tryz.e207 rfl rfl rfl (lbt rfl) ?_
 simp only [BS,LB,Nat.reduceLT,Nat.reduceEqDiff]
 refine ar (se S.ok) ?_;intro h g;replace S:=S.call g;clear g
 simp only [BS,LB,ae,Nat.reduceLT,Nat.reduceEqDiff]
 exact S.gr
theorem wy_bd(x:Int):0<=wy x/\wy x<=72057594037927936:=by unfold wy;omega
theorem wy_id{x:Int}(h0:0<=x)(a:x<=72057594037927936):wy x=x:=by unfold wy;omega
def lowD(v t:Int):Int:=if wy t<72057594037927936 then(if wy v<72057594037927936 then wy (wy v-wy t)else 72057594037927936)else 0
theorem low_ok{h0:Hp}(i:h0.t.Sized h0.n){v t:Int}:aW zj 162 [.int .i64 v,.int .i64 t] h0 (.int .i64 (lowD v t)):=by
 have S:=Si i
 have a:=wy_bd v
 have b:=wy_bd t
 have c:wy (wy v)=wy v:=wy_id a.1 a.2
 have d:wy (wy t)=wy t:=wy_id b.1 b.2
 have w:au .i64 (wy v-wy t)=wy v-wy t:=by rw [wrap64]<;>omega
 refine ag (n:=21) (rs:=[.tmp 4]) rfl Tryz.e162 rfl rfl rfl (lbt rfl) ?_
 simp only [BS,LB,Nat.reduceLT,Nat.reduceEqDiff]
 refine ar (se S.ok) ?_;intro h g;replace S:=S.call g;clear g
 simp only [BS,LB,Nat.reduceLT,Nat.reduceEqDiff]
 refine ar (se S.ok) ?_;intro h g;replace S:=S.call g;clear g
 simp only [BS,LB,Nat.reduceLT,Nat.reduceEqDiff]
 refine ar (ux S.ok) ?_;intro h g;replace S:=S.call g;clear g
 unfold lowD
 by_cases e:wy t<72057594037927936
 . simp only [BS,LB,Nat.reduceLT,Nat.reduceEqDiff,d,e]
   refine ar (ux S.ok) ?_;intro h g;replace S:=S.call g;clear g
   by_cases f:wy v<72057594037927936
   . simp only [BS,LB,Nat.reduceLT,Nat.reduceEqDiff,c,f,w]
     refine ar (se S.ok) ?_;intro h g;replace S:=S.call g;clear g
     simp only [BS,LB,ae,Nat.reduceLT,Nat.reduceEqDiff]
     exact S.gr
   . simp only [BS,LB,ae,Nat.reduceLT,Nat.reduceEqDiff,c,f]
     exact S.gr
 . simp only [BS,LB,ae,Nat.reduceLT,Nat.reduceEqDiff,d,e]
   exact S.gr
theorem lift_ok{h0:Hp}(a:h0.t.Sized h0.n){v t:Int}:aW zj 164 [.int .i64 v,.int .i64 t] h0 (.int .i64 (lowD t v)):=by
 have S:=Si a
 refine ag (n:=8) (rs:=[.tmp 4]) rfl Tryz.e164 rfl rfl rfl (lbt rfl) ?_
 simp only [BS,LB,Nat.reduceLT,Nat.reduceEqDiff]
 refine ar (low_ok S.ok) ?_;intro h g;replace S:=S.call g;clear g
 simp only [BS,LB,ae,Nat.reduceLT,Nat.reduceEqDiff]
 exact S.gr
end Go.Ab
end
section
namespace Go.Ab
def encV(w:Value):List Value:=[w]
theorem oz(w:Value):(encV w).length=1:=rfl
theorem pu(l:List Value):l.flatMap encV=l:=by
 induction l with
 |nil=>rfl
 |cons x l a=>rw [Xc,a];rfl
def dM(h:Hp)(m:Nat)(v:Value)(n:Nat)(R:Nat->List Int):Prop:=
 ∃a:List Value,ax h 1 encV v a/\a.length=n/\(∀c,av v c->m<=c)/\ ∀i w,a[i]? =some w->ax h 1 (encI .i64) w (R i)/\ ∀c,av w c->m<=c
theorem dM.mo{M:Nat->Prop}{h k:Hp}{m n:Nat}{v:Value}{R:Nat->List Int}(r:dM h m v n R)(g:Mo M h k)(l: ∀b,M b->b<m):dM k m v n R:=by
 obtain⟨o,a,b,c,d⟩:=r
 exact⟨o,a.mo g (fun x e f=>by have:=c x e;have:=l x f;omega),b,c,fun i w j=>⟨(d i w j).1.mo g (fun x e f=>by have:=(d i w j).2 x e;have:=l x f;omega),(d i w j).2⟩⟩
theorem dM.gr{h a:Hp}{m n:Nat}{v:Value}{R:Nat->List Int}(r:dM h m v n R)(g:Gr h a):dM a m v n R:=r.mo (M:=NoM) g.fr (fun _ h=>h.elim)
theorem dM.low{h:Hp}{m f n:Nat}{v:Value}{R:Nat->List Int}(r:dM h m v n R)(g:f<=m):dM h f v n R:=by
 obtain⟨k,a,b,c,d⟩:=r
 exact⟨k,a,b,fun x e=>zk g (c x e),fun i w j=>⟨(d i w j).1,fun x e=>zk g ((d i w j).2 x e)⟩⟩
theorem dM.row{h:Hp}{m n:Nat}{v:Value}{R:Nat->List Int}(r:dM h m v n R){i:Nat}(k:i<n): ∃w,(∃c o,kz (some 1) v (.int .i64 (i:Nat))=some (.pointer (some ⟨c,o,none⟩))/\h.load c o 1=some [w])/\ax h 1 (encI .i64) w (R i)/\ ∀c,av w c->m<=c:=by
 obtain⟨e,a,b,c,d⟩:=r
 obtain⟨q,o,g,j⟩:=a.ix (kd:=.i64) oz (i:=i) (by omega)
 have f:e[i]? =some e[i]:=zo (by omega)
 exact⟨e[i],⟨q,o,g,j⟩,(d i _ f).1,(d i _ f).2⟩
theorem flat_nat(l:List Nat):l.flatMap cI=(l.map fun(x:Nat)=>(x:Int)).flatMap (encI .i64):=by
 induction l with
 |nil=>rfl
 |cons x l a=>rw [Xc,z9,Xc,a];rfl
theorem sl_nat{h:Hp}{v:Value}{l:List Nat}(s:ax h 1 cI v l):ax h 1 (encI .i64) v (l.map fun(x:Nat)=>(x:Int)):=by
 rcases s with⟨rfl,rfl⟩|⟨b,o,s,c,rfl,a,d⟩
 . exact .inl ⟨rfl,rfl⟩
 . refine .inr ⟨b,o,s,c,by rw [zR],by rw [zR];exact a,?_⟩
   rw [zR,d,flat_nat]
def kJ(N:Nat)(l:List Int):Prop:=l.length<=16/\ ∀i,i<l.length->0<=l.getD i 0/\l.getD i 0<N/\l.getD i 0∉l.take i
theorem kJ.push{N:Nat}{l:List Int}(h:kJ N l)(g:l.length<16){x:Int}(h0:0<=x)(c:x<N)(d:x∉l):kJ N (l++[x]):=by
 refine⟨by simp;omega,fun i f=>?_⟩
 simp at f
 by_cases e:i=l.length
 . subst e
   have b:(l++[x]).getD l.length 0=x:=by simp [zl]
   rw [b,List.take_left']
   exact⟨h0,c,d⟩
   rfl
 . have a:i<l.length:=by omega
   have b:(l++[x]).getD i 0=l.getD i 0:=by simp [zl,Xe a]
   rw [b,zZ (by omega)]
   exact h.2 i a
theorem vk(N:Nat):kJ N []:=⟨by simp,fun i a=>by simp at a⟩
structure TabAt(h:Hp)(m:Nat)(p:Value)(N:Nat)(marks:List Int)(R Q:Nat->List Int):Prop where
 ex: ∃b vM vT vF,p=ptrTo b/\Row h b [.int .i64 N,vM,vT,vF] 1/\ax h 1 (encI .i64) vM marks/\dM h m vT marks.length R/\dM h m vF marks.length Q/\m<=b/\ ∀c,av vM c->m<=c
theorem TabAt.mo{M:Nat->Prop}{h d:Hp}{m N:Nat}{p:Value}{a:List Int}{R Q:Nat->List Int}(t:TabAt h m p N a R Q)(g:Mo M h d)(c: ∀b,M b->b<m):TabAt d m p N a R Q:=by
 obtain⟨b,i,j,k,e,l,n,q,r,s,f⟩:=t.ex
 exact⟨b,i,j,k,e,g.has (o:=.row _ 1) l (fun h=>by have:=c _ h;omega),n.mo g (fun x u v=>by have:=f x u;have:=c x v;omega),q.mo g c,r.mo g c,s,f⟩
theorem TabAt.gr{h b:Hp}{m N:Nat}{p:Value}{a:List Int}{R Q:Nat->List Int}(t:TabAt h m p N a R Q)(g:Gr h b):TabAt b m p N a R Q:=t.mo (M:=NoM) g.fr (fun _ h=>h.elim)
theorem dM.lenq{h c:Hp}{m n:Nat}{v:Value}{R:Nat->List Int}{e:TypeId}(r:dM c m v n R):lenQ (some (.slice e)) h v=some (.val (.int .i64 n),h):=by
 have⟨d,a,b,_⟩:=r
 rw [<-b];exact a.lenq
end Go.Ab

end
section
namespace Go.Ab
open Go.Proofs
set_option maxRecDepth 10000
def Tryz.FF:=aj t1<|aj t2<|aj t3<|aj t4<|t218
def Tryz.FV:=aj t1<|aj t2<|aj t3<|aj t4<|aj t5<|aj t6<|aj Z2<|aj t33<|t196
def Tryz.FG:=aj t1<|aj t2<|aj t3<|aj t4<|aj t33<|aj t196<|t218
theorem may1_ok{h0:Hp}(A:h0.t.Sized h0.n){b5 p b c N k:Nat}{x:Int}{q:List (Value×Value×Nat)}{f:Int->Option Value}(s:h0.load b5 0 1=some [.map (some b)])(B:h0.load p 0 1=some [.int .i64 N])(t:h0.get b=some (.map q c))(u:cP q c f)(hf:(f x).getD (.int .i64 0)=.int .i64 k)(G:k<=1)(C:b5≠b)(D:p≠b):
 Ret zj 130 [.int .i64 x,ptrTo b5,ptrTo p] h0 fun r v=>Mo (· =b) h0 v/\r=.bool (decide (x<0\/(N:Int)<=x\/k=1))/\ ∃es' c',v.get b=some (.map es' c')/\cP es' c' (dy f x (some (.int .i64 (k+1:Nat)))):=by
 have S:=St.init1 A (o:=.map q c) t
 have y:=lookI_v (x:=x) Tryz.t218.1 Tryz.t3.1 (z:=.int .i64 0) (by kernel_rfl) t u
 rw [hf]at y
 have w:au .i64 ((k:Int)+1)=((k+1:Nat):Int):=by rw [wrap64]<;>omega
 refine ag (n:=22) (rs:=[.tmp 4]) rfl Tryz.e130 rfl rfl rfl (lbt rfl) ?_
 simp only [BS,LB,Nat.reduceLT,Nat.reduceEqDiff,FF,s,y,w]
 refine aH (S.mputI (i:=0) rfl Tryz.t218.1 Tryz.t3.1 u _) ?_
 clear S;rintro h ⟨_,es',c',a,S⟩
 simp only [LC]at S
 have j:=S.old s C
 have d:=S.old B D
 have l:h.get b=some (.map es' c'):=(S.own _ m0).2
 have e:=lookI_v (x:=x) Tryz.t218.1 Tryz.t3.1 (z:=.int .i64 0) (by kernel_rfl) l a
 rw [show dy f x (some (.int .i64 ((k+1:Nat):Int))) x=some (.int .i64 ((k+1:Nat):Int)) by unfold dy;rw [if_pos rfl],Option.getD_some]at e
 by_cases g:x<0
 . simp only [BS,LB,ae,Nat.reduceLT,Nat.reduceEqDiff,g]
   exact⟨S.fr,by simp [g],es',c',l,a⟩
 . by_cases m:(N:Int)<=x
   . simp only [BS,LB,ae,Nat.reduceLT,Nat.reduceEqDiff,FF,d,g,m]
     exact⟨S.fr,by simp [m],es',c',l,a⟩
   . by_cases E:k=1
     . subst E
       simp only [BS,LB,ae,Nat.reduceLT,Nat.reduceEqDiff,Nat.reduceAdd,Int.reduceLT,zq,FF,j,d,g,m,e]
       exact⟨S.fr,by simp,es',c',l,a⟩
     . have F:k=0:=by omega
       subst F
       simp only [BS,LB,ae,Nat.reduceLT,Nat.reduceEqDiff,Int.reduceLT,zq,FF,j,d,g,m,e]
       exact⟨S.fr,by simp [g,m],es',c',l,a⟩
def OkAt(N:Nat)(l:List Int)(i:Nat):Prop:=0<=l.getD i 0/\l.getD i 0<N/\l.getD i 0∉l.take i
theorem mayIdx_ok {h0:Hp} (V:h0.t.Sized h0.n) {b5 t a N:Nat} {v:Value} {l:List Int} (A:ax h0 1 (encI .i64) v l) (hl:l.length<=1000) (W:h0.load b5 0 1=some [.map (some a)]) (B:h0.load t 0 1=some [.int .i64 N]) (K:h0.get a=some (.map [] 0)) (L:b5≠a) (M:t≠a):
 Ret zj 209 [v,.func (.func 130) #[] #[ptrTo b5,ptrTo t]] h0 fun r O=>Mo (· =a) h0 O/\ ∃z,r=.int .i64 z/\(0<=z↔ ¬ ∀i,i<l.length->OkAt N l i):=by
 have C: ∀c,av v c-> ¬c=a:=by
  rintro c P rfl
  rcases A with⟨rfl,_⟩|⟨b,o,s,Q,rfl,_,X⟩
  . exact P.elim
  . have:b=c:=P
    subst this
    simp [Hp.load,K]at X
 refine ag (n:=19) (rs:=[.tmp 4]) rfl Tryz.e209 rfl rfl rfl (lbt rfl) ?_
 simp only [BS,LB,Nat.reduceLT,Nat.reduceEqDiff,FV,A.lenq]
 refine bg (fun(i:Nat) g h=>i<=l.length/\Mo (· =a) h0 h/\(∃D c f,h.get a=some (.map D c)/\cP D c f/\ ∀x,f x=if x∈l.take i then some (.int .i64 1)else none)/\(∀j,j<i->OkAt N l j)/\g 0=v/\g 1=.func (.func 130) #[] #[ptrTo b5,ptrTo t]/\g 7=.int .i64 l.length/\g 8=.int .i64 i) (fun i=>l.length-i) ?_ 0 _ _ ?_
 . intro i Y g h ⟨hi,mo,⟨D,c,f,hg,MI,hf⟩,hok,r0,r1,r7,r8⟩
   by_cases hlt:i<l.length
   . obtain ⟨q,o,m,E⟩:=(A.mo mo C).ix (kd:=.i64) (cO .i64) hlt
     have w:au .i64 ((i:Int)+1)=((i+1:Nat):Int):=by rw [wrap64]<;>omega
     have R: ∀{b:Nat} {x},b≠a->h0.load b 0 1=some x->h.load b 0 1=some x:=fun F e=>by
      have:=mo.get _ (bw mo.ok0 e) F
      unfold Hp.load at e⊢
      rw [this];exact e
     have G:l.getD i 0=l[i]:=by simp [zl,hlt]
     simp only [BS,LB,Nat.reduceLT,Nat.reduceEqDiff,FV,r0,r1,r7,r8,aI,hlt,m,E,encI]
     refine step_ret (may1_ok mo.ok (x:=l[i]) (N:=N) (k:=if l[i]∈l.take i then 1 else 0) (R L W) (R M B) hg MI (by rw [hf];split<;>rfl) (by split<;>omega) L M) ?_
     rintro r O ⟨Z,rfl,H,Q,I,J⟩
     have p:=mo.trans Z (fun _ h=>.inl h)
     by_cases d:OkAt N l i
     . have e:decide (l[i]<0\/(N:Int)<=l[i]\/(if l[i]∈l.take i then 1 else 0)=1)=false:=by
        obtain⟨w1,w2,S⟩:=d
        rw [G]at w1 w2 S
        rw [if_neg S]
        simp;omega
       rw [e]
       have u:l[i]∉l.take i:=by have:=d.2.2;rwa [G]at this
       simp only [BS,LB,Nat.reduceLT,Nat.reduceEqDiff,r8,w]
       refine Y (i+1) _ _ (by omega) ⟨by omega,p,⟨H,Q,_,I,J,fun x=>?_⟩,fun j T=>?_,by simp [ab,r0],by simp [ab,r1,ao],by simp [ab,r7],by simp [ab]⟩
       . have U:=zK hlt
         rw [if_neg u]
         unfold dy
         by_cases y:x=l[i]
         . rw [if_pos y,if_pos (by rw [U];exact zO _ (List.mem_singleton.2 y))];rfl
         . rw [if_neg y,hf]
           have:x∈l.take (i+1)↔x∈l.take i:=by rw [U,List.mem_append,List.mem_singleton];exact⟨fun h=>h.resolve_right y,.inl⟩
           simp only [this]
       . by_cases B:j=i
         . subst B;exact d
         . exact hok j (by omega)
     . have e:decide (l[i]<0\/(N:Int)<=l[i]\/(if l[i]∈l.take i then 1 else 0)=1)=true:=by
        unfold OkAt at d
        rw [G]at d
        simp only [decide_eq_true_eq]
        by_cases u:l[i]∈l.take i
        . rw [if_pos u];exact .inr (.inr rfl)
        . by_cases a1:l[i]<0
          . exact .inl a1
          . by_cases a2:(N:Int)<=l[i]
            . exact .inr (.inl a2)
            . exact absurd ⟨by omega,by omega,u⟩ d
       rw [e]
       simp only [BS,LB,ae,Nat.reduceLT,Nat.reduceEqDiff]
       exact⟨p,_,rfl,by simp only [Int.natCast_nonneg,true_iff];exact fun h=>d (h i hlt)⟩
   . simp only [BS,LB,ae,Nat.reduceLT,Nat.reduceEqDiff,r7,r8,aI,hlt]
     exact⟨mo,_,rfl,⟨fun h=>by omega,fun h=>absurd (fun j T=>hok j (by omega)) h⟩⟩
 . exact⟨zw _,Mo.refl V,⟨[],0,fun _=>none,K,vw,fun x=>by simp⟩,fun j T=>by omega,by simp [ab,bu],by simp [ab,bu,dF,ao],by simp [ab],by simp [ab]⟩
noncomputable instance mayDec(N:Nat)(l:List Int):Decidable (kJ N l):=Classical.propDecidable _
theorem mayCf_ok{h0:Hp}(j:h0.t.Sized h0.n){b5 b a N:Nat}{v:Value}{l:List Int}(k:ax h0 1 (encI .i64) v l)(m:l.length<=1000)(o:h0.load b5 0 1=some [.map (some a)])(p:h0.load b 0 1=some [.int .i64 N])(q:h0.get a=some (.map [] 0))(s:b5≠a)(t:b≠a)(d:Decidable (∀i,i<l.length->OkAt N l i)):
 Ret zj 131 [v,.func (.func 130) #[] #[ptrTo b5,ptrTo b]] h0 fun r u=>Mo (· =a) h0 u/\r=.bool (!decide (∀i,i<l.length->OkAt N l i)):=by
 refine ag (n:=9) (rs:=[.tmp 4]) rfl Tryz.e131 rfl rfl rfl (lbt rfl) ?_
 simp only [BS,LB,Nat.reduceLT,Nat.reduceEqDiff]
 refine step_ret (mayIdx_ok j k m o p q s t) ?_
 rintro r h ⟨f,z,rfl,g⟩
 by_cases c: ∀i,i<l.length->OkAt N l i
 . have e: ¬(0<=z):=fun h=>g.1 h c
   simp only [BS,LB,ae,Nat.reduceLT,Nat.reduceEqDiff,e]
   exact⟨f,by rw [decide_eq_true c];rfl⟩
 . have e:0<=z:=g.2 c
   simp only [BS,LB,ae,Nat.reduceLT,Nat.reduceEqDiff,e]
   exact⟨f,by rw [decide_eq_false c];rfl⟩
theorem may_ok{h0:Hp}(s:h0.t.Sized h0.n){v:Value}{l:List Int}{N:Nat}(g:ax h0 1 (encI .i64) v l)(t:l.length<=1000):aW zj 53 [.int .i64 N,v] h0 (.bool (decide (kJ N l))):=by
 have S:=Si s
 refine ag (n:=18) (rs:=[.tmp 4]) rfl Tryz.e53 rfl rfl rfl (lbt rfl) ?_
 simp only [BS,Nat.reduceLT]
 refine am (bE (by intro x e;cases e)) S ?_;clear S;intro h u S p;simp only [ah]at S
 simp only [BS]
 refine am qn S ?_;clear S;intro h A S a
 simp only [BS,FG]
 refine am aF S ?_;clear S;intro h w S q
 simp only [BS,LB,Nat.reduceLT,Nat.reduceEqDiff]
 refine aH (aC S (i:=0) rfl ?_ ?_ ?_ ono) ?_
 . exact(by simp only [FG])
 . exact(by exact fl_map)
 . exact zp (lbt rfl)
 clear S;rintro h ⟨S,j⟩;clear j;simp only [LC,ah,lay,zt,zu,Nat.reduceAdd]at S
 by_cases f:l.length<=16
 . have k:(l.length:Int)<=16:=by omega
   simp only [BS,LB,Nat.reduceLT,Nat.reduceEqDiff,FG,g.lenq,k]
   have m:=S.apart
   simp only [keys,z9,Xn,List.filterMap_nil,Xh,List.nodup_cons,Xm,Xf,or_false,not_or]at m
   have d:Decidable (∀i,i<l.length->OkAt N l i):=Classical.propDecidable _
   refine step_ret (mayCf_ok S.ok (g.gr S.gr) t (S.ld (b:=w) (o:=0) m0 rfl) (S.ld (b:=u) (o:=0) m2 rfl) (S.own _ m1).2 m.1.1 (fun e=>m.2.1 e.symm) d) ?_
   rintro r h ⟨j,rfl⟩
   have y:Gr h0 h:=(S.fr.trans j (fun c z=>.inr (by subst z;exact a)):Mo NoM h0 h).gr
   simp only [BS,LB,ae,Nat.reduceLT,Nat.reduceEqDiff]
   refine⟨?_,y⟩
   congr 1
   by_cases c: ∀i,i<l.length->OkAt N l i
   . have:kJ N l:=⟨f,c⟩
     rw [decide_eq_true c,decide_eq_true this];rfl
   . have: ¬kJ N l:=fun h=>c h.2
     rw [decide_eq_false c,decide_eq_false this];rfl
 . have k: ¬(l.length:Int)<=16:=by omega
   simp only [BS,LB,ae,Nat.reduceLT,Nat.reduceEqDiff,FG,g.lenq,k]
   exact⟨by have: ¬kJ N l:=fun h=>f h.1;simp [this],S.gr⟩

def Tryz.F0w:=aj t1<|aj t2<|aj t3<|aj t4<|aj t24<|aj t33<|aj t51<|aj t59<|Z4
def Tryz.F0x:=aj t1<|aj t2<|aj t3<|aj t4<|aj t24<|aj t33<|aj t51<|aj t59<|Z4
def Tryz.F0y:=aj t1<|aj t2<|aj t3<|aj t24<|aj t33<|aj t51<|aj t59<|Z4
def Tryz.F0z:=aj t1<|aj t2<|aj t3<|aj t24<|aj t33<|aj t51<|aj t59<|Z4
def Tryz.Fp:=aj t1<|aj t2<|aj t3<|aj t4<|aj t24<|aj t33<|aj t51<|aj t59<|aj Z4<|t312
theorem nG{h0:Hp}(a:h0.t.Sized h0.n){m N:Nat}{p:Value}{l:List Int}{R Q:Nat->List Int}(t:TabAt h0 m p N l R Q):aW zj 112 [p] h0 (.int .i64 N):=by
 have S:=Si a
 obtain⟨b,e,f,g,rfl,c,_⟩:=t.ex
 have d:=c.load1 (o:=0) rfl
 refine ag (n:=9) (rs:=[.tmp 2]) rfl Tryz.e112 rfl rfl rfl (lbt rfl) ?_
 simp only [BS,LB,ae,Nat.reduceLT,Nat.reduceEqDiff,F0w,d]
 exact S.gr
theorem kX{h0:Hp}(e:h0.t.Sized h0.n){m N:Nat}{p:Value}{l:List Int}{R Q:Nat->List Int}(t:TabAt h0 m p N l R Q)(a:l.length<1000):Ret zj 81 [p] h0 fun r d=>Gr h0 d/\ax d 1 (encI .i64) r l/\ ∀c,av r c->h0.n<=c:=by
 have S:=Si e
 obtain⟨b,k,q,s,rfl,f,i,_⟩:=t.ex
 have j:=f.load1 (o:=1) rfl
 refine ag (n:=10) (rs:=[.tmp 2]) rfl Tryz.e81 rfl rfl rfl (lbt rfl) ?_
 simp only [BS,LB,Nat.reduceLT,Nat.reduceEqDiff,F0x,j]
 refine step_ret (nE S.ok (cO .i64) i (by omega)) ?_;intro v h ⟨g,sl,hc⟩;replace S:=S.call g;clear g
 simp only [BS,LB,ae,Nat.reduceLT,Nat.reduceEqDiff]
 exact⟨S.gr,sl,hc⟩
def gf(N n:Nat)(R:Nat->List Int)(i v:Int):Int:=if 0<=i/\i<n/\0<=v/\v<N then(R i.toNat).getD v.toNat 0 else 72057594037927936
theorem tos_ok{h0:Hp}(c:h0.t.Sized h0.n){m N:Nat}{p:Value}{l:List Int}{R Q:Nat->List Int}(t:TabAt h0 m p N l R Q):Ret zj 224 [p] h0 fun r a=>Gr h0 a/\dM a m r l.length R:=by
 have S:=Si c
 obtain⟨b,f,g,h,rfl,d,_,L,_⟩:=t.ex
 have e:=d.load1 (o:=2) rfl
 refine ag (n:=7) (rs:=[.tmp 2]) rfl Tryz.e224 rfl rfl rfl (lbt rfl) ?_
 simp only [BS,LB,ae,Nat.reduceLT,Nat.reduceEqDiff,F0y,e]
 exact⟨S.gr,L⟩
theorem froms_ok{h0:Hp}(c:h0.t.Sized h0.n){m N:Nat}{p:Value}{l:List Int}{R Q:Nat->List Int}(t:TabAt h0 m p N l R Q):Ret zj 225 [p] h0 fun r a=>Gr h0 a/\dM a m r l.length Q:=by
 have S:=Si c
 obtain⟨b,f,g,h,rfl,d,_,_,L,_⟩:=t.ex
 have e:=d.load1 (o:=3) rfl
 refine ag (n:=7) (rs:=[.tmp 2]) rfl Tryz.e225 rfl rfl rfl (lbt rfl) ?_
 simp only [BS,LB,ae,Nat.reduceLT,Nat.reduceEqDiff,F0z,e]
 exact⟨S.gr,L⟩
theorem xd{h0:Hp}(z:h0.t.Sized h0.n){m N:Nat}{p:Value}{l:List Int}{R Q W:Nat->List Int}(t:TabAt h0 m p N l R Q){g:FuncId}(A: ∀h,Gr h0 h->Ret zj g [p] h fun r s=>Gr h s/\dM s m r l.length W)(B: ∀i,i<l.length->(W i).length=N){i v:Int}:
 aW zj 223 [p,.func (.func g) #[p] #[],.int .i64 i,.int .i64 v] h0 (.int .i64 (gf N l.length W i v)):=by
 have S:=Si z
 obtain⟨b,I,J,K,rfl,u,e,_⟩:=t.ex
 have x:=u.load1 (o:=0) rfl
 have f:=u.load1 (o:=1) rfl
 unfold gf
 refine ag (n:=44) (rs:=[.tmp 8]) rfl Tryz.e223 rfl rfl rfl (lbt rfl) ?_
 by_cases a:i<0
 . rw [if_neg (by omega)]
   simp only [BS,LB,ae,Nat.reduceLT,Nat.reduceEqDiff,Fp,a]
   exact S.gr
 . by_cases j:(l.length:Int)<=i
   . rw [if_neg (by omega)]
     simp only [BS,LB,ae,Nat.reduceLT,Nat.reduceEqDiff,Fp,f,a,j,e.lenq]
     exact S.gr
   . by_cases q:v<0
     . rw [if_neg (by omega)]
       simp only [BS,LB,ae,Nat.reduceLT,Nat.reduceEqDiff,Fp,f,a,j,q,e.lenq]
       exact S.gr
     . by_cases y:(N:Int)<=v
       . rw [if_neg (by omega)]
         simp only [BS,LB,ae,Nat.reduceLT,Nat.reduceEqDiff,Fp,x,f,a,j,q,y,e.lenq]
         exact S.gr
       . rw [if_pos (by omega)]
         obtain⟨d,rfl⟩:=zL (show 0<=i by omega)
         obtain⟨k,rfl⟩:=zL (show 0<=v by omega)
         simp only [BS,LB,Nat.reduceLT,Nat.reduceEqDiff,Fp,x,f,a,j,q,y,e.lenq]
         refine step_ret (A _ S.gr) ?_;intro v h ⟨g,L⟩;replace S:=S.call g;clear g
         obtain⟨w,⟨c,o,C,D⟩,sw,_⟩:=L.row (i:=d) (by omega)
         have E:=B d (by omega)
         obtain⟨M,O,F,G⟩:=sw.ix (kd:=.i64) (cO .i64) (i:=k) (by omega)
         have H:(W d).getD k 0=(W d)[k]:=by simp [zl,show k<(W d).length by omega]
         simp only [BS,LB,ae,Nat.reduceLT,Nat.reduceEqDiff,Fp,C,D,F,G,encI,zN,H]
         exact S.gr
theorem uR{h0:Hp}(a:h0.t.Sized h0.n){m N:Nat}{p:Value}{l:List Int}{R Q:Nat->List Int}(t:TabAt h0 m p N l R Q)(b: ∀i,i<l.length->(R i).length=N){i v:Int}:aW zj 161 [p,.int .i64 i,.int .i64 v] h0 (.int .i64 (gf N l.length R i v)):=by
 have S:=Si a
 refine ag (n:=13) (rs:=[.tmp 6]) rfl Tryz.e161 rfl rfl rfl (lbt rfl) ?_
 simp only [BS,LB,Nat.reduceLT,Nat.reduceEqDiff]
 refine ar (xd S.ok t (fun h g=>tos_ok g.ok (t.gr g)) b) ?_;intro h g;replace S:=S.call g;clear g
 simp only [BS,LB,ae,Nat.reduceLT,Nat.reduceEqDiff]
 exact S.gr
theorem sU{h0:Hp}(a:h0.t.Sized h0.n){m N:Nat}{p:Value}{l:List Int}{R Q:Nat->List Int}(t:TabAt h0 m p N l R Q)(b: ∀i,i<l.length->(Q i).length=N){i v:Int}:aW zj 163 [p,.int .i64 i,.int .i64 v] h0 (.int .i64 (gf N l.length Q i v)):=by
 have S:=Si a
 refine ag (n:=13) (rs:=[.tmp 6]) rfl Tryz.e163 rfl rfl rfl (lbt rfl) ?_
 simp only [BS,LB,Nat.reduceLT,Nat.reduceEqDiff]
 refine ar (xd S.ok t (fun h g=>froms_ok g.ok (t.gr g)) b) ?_;intro h g;replace S:=S.call g;clear g
 simp only [BS,LB,ae,Nat.reduceLT,Nat.reduceEqDiff]
 exact S.gr
def Tryz.FW:=aj t1<|aj t2<|aj t3<|aj t4<|aj t33<|aj t51<|aj t59<|aj Z4<|aj t215<|t246
def Tryz.FX:=aj t1<|aj t2<|aj t3<|aj t4<|aj t5<|aj t6<|aj t33<|aj t51<|aj t59<|Z4
theorem fS{h0:Hp}(a:h0.t.Sized h0.n){m N:Nat}{p:Value}{l:List Int}{R Q:Nat->List Int}(t:TabAt h0 m p N l R Q){v:Int}:aW zj 124 [p,.int .i64 v] h0 (.bool (decide (0<=v/\v<N))):=by
 have S:=Si a
 refine ag (n:=13) (rs:=[.tmp 4]) rfl Tryz.e124 rfl rfl rfl (lbt rfl) ?_
 by_cases c:0<=v
 . simp only [BS,LB,Nat.reduceLT,Nat.reduceEqDiff,c]
   refine ar (nG S.ok (t.gr S.gr)) ?_;intro h g;replace S:=S.call g;clear g
   simp only [BS,LB,ae,Nat.reduceLT,Nat.reduceEqDiff]
   exact S.gr
 . simp only [BS,LB,ae,Nat.reduceLT,Nat.reduceEqDiff,c]
   exact⟨by simp,S.gr⟩
theorem wayTo_ok{h0:Hp}(b:h0.t.Sized h0.n){m N:Nat}{p:Value}{l:List Int}{R Q:Nat->List Int}(t:TabAt h0 m p N l R Q)(a: ∀i,i<l.length->(R i).length=N){i v w:Int}:
 aW zj 160 [.func (.func 161) #[p] #[],.func (.func 162) #[] #[],.int .i64 i,.int .i64 v,.int .i64 w] h0 (.int .i64 (lowD (gf N l.length R i v) (gf N l.length R i w))):=by
 have S:=Si b
 refine ag (n:=21) (rs:=[.tmp 10]) rfl Tryz.e160 rfl rfl rfl (lbt rfl) ?_
 simp only [BS,LB,Nat.reduceLT,Nat.reduceEqDiff]
 refine ar (uR S.ok (t.gr S.gr) a) ?_;intro h g;replace S:=S.call g;clear g
 simp only [BS,LB,Nat.reduceLT,Nat.reduceEqDiff]
 refine ar (uR S.ok (t.gr S.gr) a) ?_;intro h g;replace S:=S.call g;clear g
 simp only [BS,LB,Nat.reduceLT,Nat.reduceEqDiff]
 refine ar (low_ok S.ok) ?_;intro h g;replace S:=S.call g;clear g
 simp only [BS,LB,ae,Nat.reduceLT,Nat.reduceEqDiff]
 exact S.gr
theorem wayFr_ok{h0:Hp}(b:h0.t.Sized h0.n){m N:Nat}{p:Value}{l:List Int}{R Q:Nat->List Int}(t:TabAt h0 m p N l R Q)(a: ∀i,i<l.length->(Q i).length=N){i v w:Int}:
 aW zj 160 [.func (.func 163) #[p] #[],.func (.func 164) #[] #[],.int .i64 i,.int .i64 v,.int .i64 w] h0 (.int .i64 (lowD (gf N l.length Q i w) (gf N l.length Q i v))):=by
 have S:=Si b
 refine ag (n:=21) (rs:=[.tmp 10]) rfl Tryz.e160 rfl rfl rfl (lbt rfl) ?_
 simp only [BS,LB,Nat.reduceLT,Nat.reduceEqDiff]
 refine ar (sU S.ok (t.gr S.gr) a) ?_;intro h g;replace S:=S.call g;clear g
 simp only [BS,LB,Nat.reduceLT,Nat.reduceEqDiff]
 refine ar (sU S.ok (t.gr S.gr) a) ?_;intro h g;replace S:=S.call g;clear g
 simp only [BS,LB,Nat.reduceLT,Nat.reduceEqDiff]
 refine ar (lift_ok S.ok) ?_;intro h g;replace S:=S.call g;clear g
 simp only [BS,LB,ae,Nat.reduceLT,Nat.reduceEqDiff]
 exact S.gr
def lc(N n:Nat)(R Q:Nat->List Int)(i v w:Int):Int:=if(0<=v/\v<N)/\(0<=w/\w<N)/\0<=i/\i<n then max (lowD (gf N n R i v) (gf N n R i w)) (lowD (gf N n Q i w) (gf N n Q i v))else 0
theorem tJ{h0:Hp}(f:h0.t.Sized h0.n){m N:Nat}{p:Value}{l:List Int}{R Q:Nat->List Int}(t:TabAt h0 m p N l R Q)(j: ∀i,i<l.length->(R i).length=N)(k: ∀i,i<l.length->(Q i).length=N)(d:l.length<1000){i v w:Int}:
 aW zj 85 [p,.int .i64 i,.int .i64 v,.int .i64 w] h0 (.int .i64 (lc N l.length R Q i v w)):=by
 have S:=Si f
 by_cases a:0<=v/\v<N
 . by_cases b:0<=w/\w<N
   . by_cases c:i<0
     . rw [show lc N l.length R Q i v w=0 from if_neg (by omega)]
       refine ag (n:=43) (rs:=[.tmp 8]) rfl Xj rfl rfl rfl (lbt rfl) ?_
       simp only [BS,LB,Nat.reduceLT,Nat.reduceEqDiff]
       refine ar (fS S.ok (t.gr S.gr)) ?_;intro h g;replace S:=S.call g;clear g
       simp only [BS,LB,Nat.reduceLT,Nat.reduceEqDiff,a]
       refine ar (fS S.ok (t.gr S.gr)) ?_;intro h g;replace S:=S.call g;clear g
       simp only [BS,LB,ae,Nat.reduceLT,Nat.reduceEqDiff,b,c]
       exact S.gr
     . by_cases e:(l.length:Int)<=i
       . rw [show lc N l.length R Q i v w=0 from if_neg (by omega)]
         refine ag (n:=43) (rs:=[.tmp 8]) rfl Xj rfl rfl rfl (lbt rfl) ?_
         simp only [BS,LB,Nat.reduceLT,Nat.reduceEqDiff]
         refine ar (fS S.ok (t.gr S.gr)) ?_;intro h g;replace S:=S.call g;clear g
         simp only [BS,LB,Nat.reduceLT,Nat.reduceEqDiff,a]
         refine ar (fS S.ok (t.gr S.gr)) ?_;intro h g;replace S:=S.call g;clear g
         simp only [BS,LB,Nat.reduceLT,Nat.reduceEqDiff,b,c]
         refine step_ret (kX S.ok (t.gr S.gr) d) ?_;intro v h ⟨g,slM,_⟩;replace S:=S.call g;clear g
         simp only [BS,LB,ae,Nat.reduceLT,Nat.reduceEqDiff,FW,e,slM.lenq]
         exact S.gr
       . rw [show lc N l.length R Q i v w=max (lowD (gf N l.length R i v) (gf N l.length R i w)) (lowD (gf N l.length Q i w) (gf N l.length Q i v))from if_pos ⟨a,b,by omega,by omega⟩]
         refine ag (n:=43) (rs:=[.tmp 8]) rfl Xj rfl rfl rfl (lbt rfl) ?_
         simp only [BS,LB,Nat.reduceLT,Nat.reduceEqDiff]
         refine ar (fS S.ok (t.gr S.gr)) ?_;intro h g;replace S:=S.call g;clear g
         simp only [BS,LB,Nat.reduceLT,Nat.reduceEqDiff,a]
         refine ar (fS S.ok (t.gr S.gr)) ?_;intro h g;replace S:=S.call g;clear g
         simp only [BS,LB,Nat.reduceLT,Nat.reduceEqDiff,b,c]
         refine step_ret (kX S.ok (t.gr S.gr) d) ?_;intro v h ⟨g,slM,_⟩;replace S:=S.call g;clear g
         simp only [BS,LB,Nat.reduceLT,Nat.reduceEqDiff,FW,e,slM.lenq]
         refine ar (wayTo_ok S.ok (t.gr S.gr) j) ?_;intro h g;replace S:=S.call g;clear g
         simp only [BS,LB,Nat.reduceLT,Nat.reduceEqDiff]
         refine ar (wayFr_ok S.ok (t.gr S.gr) k) ?_;intro h g;replace S:=S.call g;clear g
         simp only [BS,LB,ae,Nat.reduceLT,Nat.reduceEqDiff]
         exact S.gr
   . rw [show lc N l.length R Q i v w=0 from if_neg (fun h=>b h.2.1)]
     refine ag (n:=43) (rs:=[.tmp 8]) rfl Xj rfl rfl rfl (lbt rfl) ?_
     simp only [BS,LB,Nat.reduceLT,Nat.reduceEqDiff]
     refine ar (fS S.ok (t.gr S.gr)) ?_;intro h g;replace S:=S.call g;clear g
     simp only [BS,LB,Nat.reduceLT,Nat.reduceEqDiff,a]
     refine ar (fS S.ok (t.gr S.gr)) ?_;intro h g;replace S:=S.call g;clear g
     simp only [BS,LB,ae,Nat.reduceLT,Nat.reduceEqDiff,b]
     exact S.gr
 . rw [show lc N l.length R Q i v w=0 from if_neg (fun h=>a h.1)]
   refine ag (n:=43) (rs:=[.tmp 8]) rfl Xj rfl rfl rfl (lbt rfl) ?_
   simp only [BS,LB,Nat.reduceLT,Nat.reduceEqDiff]
   refine ar (fS S.ok (t.gr S.gr)) ?_;intro h g;replace S:=S.call g;clear g
   simp only [BS,LB,ae,Nat.reduceLT,Nat.reduceEqDiff,a]
   exact S.gr
def mm(N n:Nat)(R Q:Nat->List Int)(v w:Int)(l:List Int):Int:=l.foldl (fun b i=>max b (lc N n R Q i v w)) 0
theorem bBest_ok{h0:Hp}(q:h0.t.Sized h0.n){m N:Nat}{p:Value}{l:List Int}{R Q:Nat->List Int}(t:TabAt h0 m p N l R Q)(r: ∀i,i<l.length->(R i).length=N)(s: ∀i,i<l.length->(Q i).length=N)(u:l.length<1000){e:Value}{a:List Int}(j:ax h0 1 (encI .i64) e a)(x:a.length<1000){v w:Int}:
 aW zj 129 [p,e,.int .i64 v,.int .i64 w] h0 (.int .i64 (mm N l.length R Q v w a)):=by
 have S:=Si q
 refine ag (n:=26) (rs:=[.tmp 8]) rfl Tryz.e129 rfl rfl rfl (lbt rfl) ?_
 simp only [BS,LB,Nat.reduceLT,Nat.reduceEqDiff,FX,j.lenq]
 refine bg (fun(k:Nat) b h=>k<=a.length/\Gr h0 h/\b 0=p/\b 2=.int .i64 v/\b 3=.int .i64 w/\b 8=.int .i64 (mm N l.length R Q v w (a.take k))/\b 11=e/\b 12=.int .i64 a.length/\b 13=.int .i64 k) (fun k=>a.length-k) ?_ 0 _ _ ?_
 . clear S
   intro k y b h ⟨hk,g0,r0,r2,r3,r8,r11,r12,r13⟩
   have z:au .i64 ((k:Int)+1)=((k+1:Nat):Int):=by rw [wrap64]<;>omega
   by_cases hlt:k<a.length
   . obtain⟨c,o,d,f⟩:=(j.gr g0).ix (kd:=.i64) (cO .i64) hlt
     simp only [BS,LB,Nat.reduceLT,Nat.reduceEqDiff,FX,r0,r2,r3,r8,r11,r12,r13,aI,hlt,d,f,encI]
     refine ar (tJ g0.ok (t.gr g0) r s u) ?_
     intro h g
     simp only [BS,LB,Nat.reduceLT,Nat.reduceEqDiff,r13,z]
     refine y (k+1) _ _ (by omega) ⟨by omega,g0.trans g,by simp [ab,r0],by simp [ab,r2],by simp [ab,r3],?_,by simp [ab,r11],by simp [ab,r12],by simp [ab]⟩
     rw [zK hlt]
     unfold mm
     rw [List.foldl_append]
     simp [ab]
   . simp only [BS,LB,ae,Nat.reduceLT,Nat.reduceEqDiff,r8,r12,r13,aI,hlt]
     rw [List.take_of_length_le (by omega)]
     exact⟨rfl,g0⟩
 . exact⟨zw _,S.gr,by simp [ab,bu],by simp [ab,bu,dF],by simp [ab,bu,dF],by simp [ab,mm],by simp [ab],by simp [ab],by simp [ab]⟩
def Tryz.FY:=aj t1<|aj t2<|aj t3<|aj t33<|aj t51<|aj t59<|Z4
def Tryz.F0A:=aj t1<|aj t2<|aj t3<|aj t4<|t33
def Tryz.F0B:=aj t3<|aj t33<|t161
def Tryz.F0C:=aj t1<|aj t2<|aj t3<|aj t33<|t161
def Tryz.FZ:=aj t1<|aj t2<|aj t3<|aj t4<|aj t5<|aj t6<|aj Z2<|aj t33<|aj t51<|aj t59<|aj Z4<|t161
def keyB(N n:Nat)(R Q:Nat->List Int)(s w:Int)(i:Nat):Int:=lc N n R Q i s w
def actL(N n:Nat)(R Q:Nat->List Int)(s w a:Int):List Nat:=(gC (keyB N n R Q s w) (n-1) (zG n)).take (min (max a 1).toNat n)
theorem yP{c:Hp}{m N:Nat}{p:Value}{l:List Int}{R Q:Nat->List Int}(t:TabAt c m p N l R Q)(k: ∀i,i<l.length->(R i).length=N)(o: ∀i,i<l.length->(Q i).length=N)(r:l.length<1000){s w:Int}{b4 b5 b6:Nat}(d:c.load b4 0 1=some [p])(e:c.load b5 0 1=some [.int .i64 s])(f:c.load b6 0 1=some [.int .i64 w]):
 CmpF zj c 83 [ptrTo b4,ptrTo b5,ptrTo b6] l.length (keyB N l.length R Q s w):=by
 intro h g i j D E
 have F:Fl p:=by obtain⟨b,_,_,_,rfl,_⟩:=t.ex;exact fO
 have S:=Si g.ok
 have u:=bw g.ok (g.load d)
 have v:=bw g.ok (g.load e)
 have x:=bw g.ok (g.load f)
 refine ag (n:=19) (rs:=[.tmp 7]) rfl Tryz.e83 rfl rfl rfl (lbt rfl) ?_
 simp only [BS,LB]
 refine aE (aK rfl) (q:=0) (ps:=[(4,8),(4,7),(4,5)]) (by kernel_rfl) ?_
 simp only [BS,LB,cls,Nat.reduceLT,Nat.reduceEqDiff,Nat.reduceAdd,Nat.reducePow,Nat.reduceDiv,Nat.reduceMod,Nat.reduceLeDiff,FY,g.load d,g.load e,g.load f]
 refine dg (tJ S.ok ((t.gr g).gr S.gr) k o r) ?_
 intro G a
 have y:=aG a u
 have z:=aG a v
 have A:=aG a x
 replace S:=S.call a
 simp only [BS,LB,cls,Nat.reduceLT,Nat.reduceEqDiff,Nat.reduceAdd,Nat.reducePow,Nat.reduceDiv,Nat.reduceMod,Nat.reduceLeDiff,FY,a.load (g.load d),a.load (g.load e),a.load (g.load f)]
 refine dg (tJ S.ok ((t.gr g).gr S.gr) k o r) ?_
 intro H B
 replace S:=S.call B
 simp only [BS,LB,cls,Nat.reduceLT,Nat.reduceEqDiff,Nat.reduceAdd,Nat.reducePow,Nat.reduceDiv,Nat.reduceMod,Nat.reduceLeDiff]
 refine dg (uV S.ok) ?_
 intro I C
 replace S:=S.call C
 simp only [BS,LB,cls,ae,Nat.reduceLT,Nat.reduceEqDiff,Nat.reduceAdd,Nat.reducePow,Nat.reduceDiv,Nat.reduceMod,Nat.reduceLeDiff]
 refine⟨by simp only [bH,bN,a8,bP,bz,ne_eq,not_false_eq_true,bZ,cv,bV,bG,cy,dl,aQ,Nat.reduceLT,Nat.reduceEqDiff,reduceIte,zn,ao,cC,bS y,bS z,bS A],?_⟩
 exact⟨rfl,S.gr⟩
theorem insNil_ok{h0:Hp}(a:h0.t.Sized h0.n){v:Value}:aW zj 255 [.slice none 0 0,.int .i64 0,.int .i64 0,v] h0 (.tuple #[]):=by
 have S:=Si a
 have b:au .i64 1=1:=rfl
 have c: ¬(1:Int)<0:=by decide
 refine ag (n:=53) (rs:=[]) rfl Tryz.e255 rfl rfl rfl (lbt rfl) ?_
 simp only [BS,LB,Nat.reduceLT,Nat.reduceEqDiff,Int.reduceAdd,b]
 rw [ce]
 simp only [BS,LB,ae,Nat.reduceLT,Nat.reduceEqDiff,c]
 exact S.gr
theorem xH{h0:Hp}(d:h0.t.Sized h0.n){m:Nat}{g:FuncId}{a:Array Value}:aW zj 82 [.slice none 0 0,.int .i64 (m:Nat),.func (.func g) #[] a] h0 (.slice none 0 0):=by
 have S:=Si d
 have e:aW zj 55 [.slice none 0 0] h0 (.slice none 0 0):=by
  refine ag (n:=8) (rs:=[.tmp 2]) rfl Tryz.e55 rfl rfl rfl (lbt rfl) ?_
  simp only [BS,LB,ae,Nat.reduceLT,Nat.reduceEqDiff,F0A]
  exact S.gr
 have f:min (m:Int) 0=0:=by omega
 have i: ¬(20:Int)<=0:=by decide
 have j: ¬(20:Int)<0:=by decide
 have k: ∀{h:Hp},h.t.Sized h.n->aW zj 158 [.slice none 0 0,.func (.func g) #[] a] h (.tuple #[]):=fun {h} b=>by
  have S:=Si b
  have l:aW zj 222 [.slice none 0 0,.int .i64 0,.func (.func g) #[] a] h (.tuple #[]):=by
   refine ag (n:=63) (rs:=[]) rfl Tryz.e222 rfl rfl rfl (lbt rfl) ?_
   simp only [BS,LB,Nat.reduceLT,Nat.reduceEqDiff]
   rw [ce]
   simp only [BS,LB,Nat.reduceLT,Nat.reduceEqDiff,i]
   refine ar (insNil_ok S.ok) ?_;intro h g;replace S:=S.call g;clear g
   simp only [BS]
   rw [ce]
   simp only [BS,LB,ae,Nat.reduceLT,Nat.reduceEqDiff,j]
   exact S.gr
  refine ag (n:=9) (rs:=[]) rfl Tryz.e158 rfl rfl rfl (lbt rfl) ?_
  simp only [BS,LB,Nat.reduceLT,Nat.reduceEqDiff,zq,F0B]
  refine ar l ?_;intro q o;replace S:=S.call o
  simp only [BS,LB,ae]
  exact S.gr
 have p:d8 zj 33 (.slice none 0 0) none (some (.int .i64 0)) none=some (.slice none 0 0):=by
  simp only [d8,Tryz.t33.1,Tryz.t3.2.2.1,dV,dU]
  rfl
 refine ag (n:=18) (rs:=[.tmp 6]) rfl Tryz.e82 rfl rfl rfl (lbt rfl) ?_
 simp only [BS,LB,Nat.reduceLT,Nat.reduceEqDiff]
 refine ar e ?_;intro h c;replace S:=S.call c
 simp only [BS,LB,Nat.reduceLT,Nat.reduceEqDiff]
 refine ar (k S.ok) ?_;intro h c;replace S:=S.call c
 simp only [BS,LB,ae,Nat.reduceLT,Nat.reduceEqDiff,zq,zW,zX,F0C,f,p]
 exact S.gr
theorem yz{h0:Hp}(K:h0.t.Sized h0.n){m N:Nat}{p:Value}{l:List Int}{R Q:Nat->List Int}(t:TabAt h0 m p N l R Q)(L: ∀i,i<l.length->(R i).length=N)(M: ∀i,i<l.length->(Q i).length=N)(Z:l.length<=16){s w a:Int}:
 Ret zj 29 [p,.int .i64 s,.int .i64 w,.int .i64 a] h0 fun r z=>Gr h0 z/\ax z 1 cI r (actL N l.length R Q s w a)/\ ∀c,av r c->h0.n<=c:=by
 have S:=Si K
 have fp:Fl p:=by obtain⟨b,_,_,_,rfl,_⟩:=t.ex;exact fO
 obtain⟨mk,f⟩: ∃k:Nat,max a 1=(k:Int):=⟨(max a 1).toNat,by omega⟩
 have q:(max a 1).toNat=mk:=by omega
 refine ag (n:=27) (rs:=[.tmp 8]) rfl Tryz.e29 rfl rfl rfl (lbt rfl) ?_
 simp only [BS,Nat.reduceLT]
 refine am (dp (by assumption)) S ?_;clear S;intro h b4 S E
 simp only [BS,Nat.reduceLT,Nat.reduceEqDiff,if_false]
 refine am (dp (by exact bI)) S ?_;clear S;intro h b5 S F
 simp only [BS,Nat.reduceLT,Nat.reduceEqDiff,if_false]
 refine am (dp (by exact bI)) S ?_;clear S;intro h b6 S G
 simp only [BS,LB,Nat.reduceLT,Nat.reduceEqDiff,FZ,S.ld (b:=b4) (o:=0) m2 rfl]
 have k0:=S.fr.n
 refine step_ret (kX S.ok (t.gr S.gr) (by omega)) ?_
 rintro r h ⟨g,O,A⟩
 replace S:=S.call g
 simp only [BS,LB,Nat.reduceLT,Nat.reduceEqDiff,FZ,O.lenq]
 replace S:=S.nilG (k:=1)
 refine bg (fun(i:Nat) d h=>i<=l.length/\ ∃u,St NoM h0 h [(b6,.row [.int .i64 w] 1),(b5,.row [.int .i64 s] 1),(b4,.row [p] 1)] [(u,1,fk (zG i))]/\(i=0->u=.slice none 0 0)/\d 3=.int .i64 a/\d 4=ptrTo b4/\d 5=ptrTo b5/\d 6=ptrTo b6/\d 9=u/\d 13=.int .i64 (l.length:Nat)/\d 14=.int .i64 i) (fun i=>l.length-i) ?_ 0 _ _ ?_
 . clear S
   intro i P d h ⟨hi,u,S,hv,r3,r4,r5,r6,r9,r13,r14⟩
   have T:au .i64 ((i:Int)+1)=((i+1:Nat):Int):=by rw [wrap64]<;>omega
   by_cases hlt:i<l.length
   . simp only [BS,LB,Nat.reduceLT,Nat.reduceEqDiff,r9,r13,r14,aI,hlt]
     refine am (bW (by exact Tryz.t33.1) (by exact zT) (by decide) (by rfl)) S ?_;clear S;intro h H S I;simp only [LC,aV,bJ,ah,Nat.reduceMul,Nat.reduceAdd,zz,zF,zx,zJ]at S
     simp only [BS,LB,Nat.reduceLT,Nat.reduceEqDiff]
     have v:aL h 1 (.slice (some ⟨H,0,none⟩) 1 1)=some (1,[.int .i64 (i:Nat)]):=by simp only [aL];rw [S.lds (b:=H) (o:=0) (n:=1*1) m0 (lbt rfl)];rfl
     replace S:=S.drop1
     refine dQ (S.grow (j:=0) (m:=1) (new:=[.int .i64 (i:Nat)]) rfl Tryz.t33.1 zT (by decide) Tryz.t33.2.2.2.2.2 v rfl (by decide) rfl (by rw [oR];simp;omega)) ?_
     clear S v;rintro h B S
     simp only [LC]at S
     have e:fk (zG i)++[.int .i64 (i:Nat)]=fk (zG (i+1)):=by unfold fk;rw [List.range_succ,List.map_append];rfl
     rw [e]at S
     simp only [BS,LB,Nat.reduceLT,Nat.reduceEqDiff,r14,T]
     exact P (i+1) _ _ (by omega) ⟨by omega,B,S,fun h=>(by omega),by simp [ab,r3],by simp [ab,r4,ao],by simp [ab,r5,ao],by simp [ab,r6,ao],by simp [ab],by simp [ab,r13],by simp [ab]⟩
   . have U:i=l.length:=by omega
     subst U
     simp only [BS,LB,Nat.reduceLT,Nat.reduceEqDiff,r3,r4,r5,r6,r9,r13,r14,aI,hlt]
     by_cases C:l.length=0
     . have V:=hv C
       subst V
       have J:=S.fr.n
       rw [f]
       refine ar (xH S.ok) ?_
       intro z g
       replace S:=S.call g
       simp only [BS,LB,ae,Nat.reduceLT,Nat.reduceEqDiff]
       refine⟨S.gr,.inl ⟨rfl,?_⟩,fun c A=>A.elim⟩
       unfold actL
       rw [C];simp
     . have W:ax h 1 cI u (zG l.length):=(S.gown _ m0).1.sl (tv _).symm jo (by decide)
       have J:=S.fr.n
       have X:=yP (t.gr S.gr) L M (by omega) (s:=s) (w:=w) (b4:=b4) (b5:=b5) (b6:=b6) (S.ld m2 rfl) (S.ld m1 rfl) (S.ld m0 rfl)
       rw [f]
       refine step_ret (first_ok (N:=l.length) (m:=mk) (Gr.refl S.ok) W (by intro e;have:=congrArg List.length e;rw [Xd]at this;exact C this) (by simp;omega) (fun x Y=>List.mem_range.1 Y) X (by omega)) ?_
       rintro r z ⟨g,y,D⟩
       replace S:=S.call g
       simp only [BS,LB,ae,Nat.reduceLT,Nat.reduceEqDiff]
       rw [Xd]at y
       exact⟨S.gr,by unfold actL;rw [q];exact y,fun c A=>zk J (D c A)⟩
 . exact⟨zw _,_,S,fun _=>rfl,by simp [ab,cC],by simp [ab,ao],by simp [ab,ao],by simp [ab,ao],by simp [ab],by simp [ab],by simp [ab]⟩
theorem pF{x:Option Tch}:iY none x=true:=by cases x<;>rfl
structure TabO(E:Env)(h0:Hp)(pt:Value)(nd mk:Nat)(gM gN:FuncId):Prop where
 fl:Fl pt
 marks: ∀h,Gr h0 h->Ret E gM [pt] h fun r h'=>Gr h h'/\ ∃l:List Int,ax h' 1 (encI .i64) r l/\l.length=mk
 nodes: ∀h,Gr h0 h->aW E gN [pt] h (.int .i64 (nd:Nat))
def iB(N a mk:Nat)(f t:Int):Int:=if¬(0<=f/\f<N)then 17 else if¬(0<=t/\t<N)then 18 else if 0<mk/\a=N then 0 else 19
def Tryz.FH:=aj t1<|aj t2<|aj t3<|aj t4<|aj t5<|aj t6<|aj Z2<|aj t45<|aj t54<|aj t234<|aj r234<|t302
def Tryz.F00:=aj t1<|aj t3<|aj t4<|aj Z0<|aj t32<|aj t189<|Z3
def Tryz.F01:=aj t1<|aj t4<|aj Z0<|aj t32<|aj t189<|Z3
def Tryz.FI:=aj t1<|aj t3<|aj t4<|aj Z0<|aj t32<|aj t33<|aj t51<|aj t59<|aj Z4<|aj t189<|Z3
structure Rl where
 g:FuncId
 post:Array Value
 ok:Bool
 code:Int
def encR(r:Rl):List Value:=[.func (.func r.g) #[] r.post,.int .i64 r.code]
theorem encR_len(r:Rl):(encR r).length=2:=rfl
def lg:List Rl->Int
 | []=>0
 |r::l=>if r.ok=true then lg l else r.code
theorem xo{rs:List Rl}{i:Nat}(a:i<rs.length):lg (rs.drop i)=if rs[i].ok=true then lg (rs.drop (i+1))else rs[i].code:=by
 rw [List.drop_eq_getElem_cons a];rfl
theorem xR {h0:Hp} (q:h0.t.Sized h0.n) {v:Value} {rs:List Rl} (g:ax h0 2 encR v rs) (C:rs.length<1000) (s: ∀i (t:i<rs.length),(∀j,j<i->(rs.getD j ⟨0,#[],false,0⟩).ok=true)-> ∀h,Gr h0 h->aW zj rs[i].g rs[i].post.toList h (.bool rs[i].ok)):
 aW zj 144 [v] h0 (.int .i64 (lg rs)):=by
 have S:=Si q
 refine ag (n:=18) (rs:=[.tmp 2]) rfl Tryz.e144 rfl rfl rfl (lbt rfl) ?_
 simp only [BS,LB,Nat.reduceLT,Nat.reduceEqDiff,FH,g.lenq]
 refine bg (fun(i:Nat) d h=>i<=rs.length/\St NoM h0 h [] []/\lg rs=lg (rs.drop i)/\(∀j,j<i->(rs.getD j ⟨0,#[],false,0⟩).ok=true)/\d 5=v/\d 6=.int .i64 (rs.length:Nat)/\d 7=.int .i64 i) (fun i=>rs.length-i) ?_ 0 _ _ ?_
 . clear S
   intro i u d h ⟨t,S,e,hb,r5,r6,r7⟩
   have w:au .i64 ((i:Int)+1)=((i+1:Nat):Int):=by rw [wrap64]<;>omega
   by_cases hlt:i<rs.length
   . obtain⟨c,o,x,y⟩:=(g.gr S.gr).ix (kd:=.i64) encR_len hlt
     have k:=s i hlt hb
     have a:rs.getD i ⟨0,#[],false,0⟩=rs[i]:=by rw [zl,zo hlt];rfl
     rw [xo hlt]at e
     generalize rs[i]=r at k y e a
     have l:=S.gr
     have Sx:=S
     replace S:=Si S.ok
     simp only [BS,LB,Nat.reduceLT,Nat.reduceEqDiff,FH,r5,r6,r7,aI,hlt,x,y,encR]
     refine am aF S ?_;clear S;intro h m S p
     simp only [BS,LB,Nat.reduceLT,Nat.reduceEqDiff]
     refine aH (S.store (i:=0) rfl ?_ ?_ rfl rfl ?_ ono) ?_
     . exact(by exact Tryz.t234.2.1)
     . exact(by intro x e;cases e)
     . exact lbt rfl
     clear S;rintro h ⟨S,z⟩;clear z;simp only [LC,ah,lay,zt,zu,Nat.reduceAdd]at S
     simp only [BS,LB,Nat.reduceLT,Nat.reduceEqDiff,FH,S.ld (b:=m) (o:=0) m0 rfl]
     refine ar (k _ (l.trans S.gr)) ?_
     intro D A
     replace S:=S.call A
     cases f:r.ok with
     | true=>
       rw [f,if_pos rfl]at e
       simp only [BS,LB,Nat.reduceLT,Nat.reduceEqDiff,r7,w]
       exact u (i+1) _ _ (by omega) ⟨by omega,Sx.call S.gr,e,fun j B=>by
        rcases Nat.lt_or_ge j i with h|h
        . exact hb j h
        . rw [show j=i by omega,a];exact f,by simp [ab,r5],by simp [ab,r6],by simp [ab]⟩
     | false=>
       rw [f,if_neg Bool.false_ne_true]at e
       simp only [BS,LB,ae,Nat.reduceLT,Nat.reduceEqDiff,FH,S.ld (b:=m) (o:=1) m0 rfl]
       exact⟨by rw [e],l.trans S.gr⟩
   . simp only [BS,LB,ae,Nat.reduceLT,Nat.reduceEqDiff,r6,r7,aI,hlt]
     have:i=rs.length:=by omega
     subst this
     rw [List.drop_length]at e
     exact⟨by rw [e];rfl,S.gr⟩
 . exact⟨zw _,S,rfl,fun j B=>by omega,by simp [ab,bu],by simp [ab],by simp [ab]⟩
theorem vJ{a:Hp}{i j k:Nat}{l:Gra}{p:Nat}(c:cE a p (ptrTo k) l){v:Int}(b:a.load i 0 1=some [.int .i64 v])(d:a.load j 0 1=some [ptrTo k]): ∀h,Gr a h->aW zj 143 [ptrTo i,ptrTo j] h (.bool (decide (0<=v/\v<l.nodes))):=by
 intro h g
 have S:=Si g.ok
 have r:=bw g.ok (g.load b)
 have s:=bw g.ok (g.load d)
 refine ag (n:=11) (rs:=[.tmp 2]) rfl Tryz.e143 rfl rfl rfl (lbt rfl) ?_
 simp only [BS]
 refine aE (aK rfl) (q:=0) (ps:=[(3,5)]) (by kernel_rfl) ?_
 by_cases e:0<=v
 . simp only [BS,LB,cls,Nat.reduceLT,Nat.reduceEqDiff,Nat.reduceAdd,Nat.reducePow,Nat.reduceDiv,Nat.reduceMod,Nat.reduceLeDiff,F00,g.load b,g.load d,e]
   refine dg (dN S.ok ((c.gr g).gr S.gr)) ?_
   intro t f
   have m:=aG f r
   have o:=aG f s
   replace S:=S.call f
   simp only [BS,LB,cls,ae,Nat.reduceLT,Nat.reduceEqDiff,Nat.reduceAdd,Nat.reducePow,Nat.reduceDiv,Nat.reduceMod,Nat.reduceLeDiff]
   refine⟨by simp only [bH,bN,a8,bP,bz,ne_eq,not_false_eq_true,bZ,cv,bG,jx,cy,dl,aQ,Nat.reduceLT,Nat.reduceEqDiff,reduceIte,ao,cC,mX,pF,zn,aX m,bS m,aX o,bS o],S.gr⟩
 . simp only [BS,LB,cls,ae,Nat.reduceLT,Nat.reduceEqDiff,Nat.reduceAdd,Nat.reducePow,Nat.reduceDiv,Nat.reduceMod,Nat.reduceLeDiff,F00,g.load b,g.load d,e]
   refine⟨by simp only [bH,bN,a8,bP,bz,ne_eq,not_false_eq_true,bZ,cv,bG,jx,cy,dl,aQ,Nat.reduceLT,Nat.reduceEqDiff,reduceIte,ao,cC,mX,pF,zn],by simp [e],S.gr⟩
theorem node_ok{h0:Hp}(e:h0.t.Sized h0.n){b:Nat}{v:Int}:Ret zj 142 [.int .i64 v,ptrTo b] h0 fun r c=>Gr h0 c/\ ∃a,r=.func (.func 143) #[] #[ptrTo a,ptrTo b]/\c.load a 0 1=some [.int .i64 v]:=by
 have S:=Si e
 refine ag (n:=5) (rs:=[.tmp 3]) rfl Tryz.e142 rfl rfl rfl (lbt rfl) ?_
 simp only [BS,Nat.reduceLT]
 refine am (dp (by exact bI)) S ?_;clear S;intro h a S d
 simp only [BS,LB,ae,Nat.reduceLT,Nat.reduceEqDiff]
 exact⟨S.gr,a,rfl,S.ld m0 rfl⟩
def isP:Value->Bool
 | .pointer none=>false
 |_=>true
theorem net2_ok{a:Hp}{c:Nat}{p:Value}(e:(∃b,p=ptrTo b)\/p=.pointer none)(d:a.load c 0 1=some [p]): ∀h,Gr a h->aW zj 145 [ptrTo c] h (.bool (isP p)):=by
 intro h g
 have S:=Si g.ok
 refine ag (n:=4) (rs:=[.tmp 1]) rfl Tryz.e145 rfl rfl rfl (lbt rfl) ?_
 rcases e with⟨f,rfl⟩|rfl
 . simp only [BS,LB,ae,Nat.reduceLT,Nat.reduceEqDiff,F01,g.load d]
   exact⟨rfl,S.gr⟩
 . simp only [BS,LB,ae,Nat.reduceLT,Nat.reduceEqDiff,F01,g.load d]
   exact⟨rfl,S.gr⟩
theorem tab3_ok{d:Hp}{o b4 p s mk:Nat}{t:Value}{u:Gra}{D:Nat}(c:cE d D (ptrTo p) u)(T:TabO zj d t s mk 81 112)(f:d.load b4 0 1=some [t])(e:d.load o 0 1=some [ptrTo p]): ∀h,Gr d h->aW zj 146 [ptrTo b4,ptrTo o] h (.bool (decide (0<mk/\s=u.nodes))):=by
 intro h g
 have E:=T.fl
 have S:=Si g.ok
 have i:=bw g.ok (g.load f)
 have j:=bw g.ok (g.load e)
 refine ag (n:=14) (rs:=[.tmp 2]) rfl Tryz.e146 rfl rfl rfl (lbt rfl) ?_
 simp only [BS]
 refine aE (aK rfl) (q:=0) (ps:=[(6,7)]) (by kernel_rfl) ?_
 simp only [BS,LB,cls,Nat.reduceLT,Nat.reduceEqDiff,Nat.reducePow,Nat.reduceDiv,Nat.reduceMod,Nat.reduceLeDiff,FI,g.load f,g.load e]
 refine cM (T.marks _ (g.trans S.gr)) ?_
 rintro r F ⟨a,l,v,el⟩
 replace S:=S.call a
 have w:=aG a i
 have x:=aG a j
 by_cases y:0<mk
 . have k:(0:Int)<(l.length:Int):=by omega
   simp only [BS,LB,cls,Nat.reduceLT,Nat.reduceEqDiff,Nat.reduceAdd,Nat.reducePow,Nat.reduceDiv,Nat.reduceMod,Nat.reduceLeDiff,FI,v.lenq,k,a.load (g.load f),a.load (g.load e)]
   refine dg (T.nodes _ (g.trans S.gr)) ?_
   intro G b
   have z:=aG b (zy i a.n)
   have A:=aG b (zy j a.n)
   replace S:=S.call b
   simp only [BS,LB,cls,Nat.reduceLT,Nat.reduceEqDiff,Nat.reduceAdd,Nat.reducePow,Nat.reduceDiv,Nat.reduceMod,Nat.reduceLeDiff,FI,b.load (a.load (g.load e))]
   refine dg (dN S.ok ((c.gr g).gr S.gr)) ?_
   intro H m
   have B:=aG m (zy i (a.trans b).n)
   have C:=aG m (zy j (a.trans b).n)
   replace S:=S.call m
   simp only [BS,LB,cls,ae,Nat.reduceLT,Nat.reduceEqDiff,Nat.reduceAdd,Nat.reducePow,Nat.reduceDiv,Nat.reduceMod,Nat.reduceLeDiff]
   refine⟨by simp only [bH,bN,a8,bP,bz,ne_eq,not_false_eq_true,bZ,cv,bV,bG,cy,dl,aQ,Nat.reduceLT,Nat.reduceEqDiff,reduceIte,zn,ao,cC,aX x,bS x,aX w,bS w,aX A,bS A,aX z,bS z,aX C,bS C,aX B,bS B],?_⟩
   exact⟨by simp [y,Int.ofNat_inj],S.gr⟩
 . have k: ¬(0:Int)<(l.length:Int):=by omega
   simp only [BS,LB,cls,ae,Nat.reduceLT,Nat.reduceEqDiff,Nat.reduceAdd,Nat.reducePow,Nat.reduceDiv,Nat.reduceMod,Nat.reduceLeDiff,FI,v.lenq,k]
   refine⟨by simp only [bH,bN,a8,bP,bz,ne_eq,not_false_eq_true,Nat.reduceEqDiff,mX,pF,zn],by simp [y],S.gr⟩
def Tryz.F02:=aj t1<|aj t2<|aj t3<|aj t4<|aj t33<|aj t51<|aj t59<|aj Z4<|aj t137<|t217
def Tryz.F0D:=aj t1<|aj t2<|aj t3<|aj t33<|aj t51<|aj t59<|Z4
def Tryz.Fz:=aj t1<|aj t2<|aj t3<|aj t4<|aj t5<|aj t6<|aj t9<|aj t15<|aj t17<|aj t24<|aj t33<|aj t51<|aj t59<|aj Z4<|aj t213<|aj t217<|Z14
theorem dM.keep{h e:Hp}{m n:Nat}{v:Value}{R:Nat->List Int}(f:h.t.Sized h.n)(g:io h e)(r:dM h m v n R):dM e m v n R:=by
 obtain⟨k,a,b,c,d⟩:=r
 exact⟨k,a.keep f g,b,c,fun i w j=>⟨(d i w j).1.keep f g,(d i w j).2⟩⟩
theorem TabAt.keep{h c:Hp}{m N:Nat}{p:Value}{l:List Int}{R Q:Nat->List Int}(a:h.t.Sized h.n)(g:io h c)(t:TabAt h m p N l R Q):TabAt c m p N l R Q:=by
 obtain⟨b,d,f,i,e,j,k,n,o,q,r⟩:=t.ex
 exact⟨b,d,f,i,e,g.row a j,k.keep a g,n.keep a g,o.keep a g,q,r⟩
theorem bEach_ok{h0:Hp}(i:h0.t.Sized h0.n){e f:Value}(j:Fl e)(k:Fl f):Ret zj 126 [e,f] h0 fun v g=>Gr h0 g/\ ∃a b,v=.func (.func 206) #[] #[ptrTo a,ptrTo b]/\h0.n<=a/\h0.n<=b/\g.load a 0 1=some [e]/\g.load b 0 1=some [f]:=by
 have S:=Si i
 refine ag (n:=6) (rs:=[.tmp 4]) rfl Tryz.e126 rfl rfl rfl (lbt rfl) ?_
 simp only [BS,Nat.reduceLT]
 refine am (dp (by assumption)) S ?_;clear S;intro h a S c
 simp only [BS,Nat.reduceLT,Nat.reduceEqDiff,if_false]
 refine am (dp (by assumption)) S ?_;clear S;intro h b S d
 simp only [BS,LB,ae,Nat.reduceLT,Nat.reduceEqDiff]
 exact⟨S.gr,a,b,rfl,c,d,S.ld m1 rfl,S.ld m0 rfl⟩
def TellF(E:Env)(b:Hp)(g:FuncId)(a:List Value)(N:Nat)(f:Nat->Int):Prop:= ∀h,h.t.Sized h.n->io b h-> ∀v,v<N->aW E g ([.int .i64 (v:Nat)]++a) h (.int .i64 (f v))
theorem bEach_it{d h0:Hp}(r:d.t.Sized d.n)(k:h0.t.Sized h0.n)(A:io d h0)(B:d.n<=h0.n){m N:Nat}{u:Value}{l:List Int}{R Q:Nat->List Int}(t:TabAt d m u N l R Q)(U:N<=1000){o p:Nat}{g:FuncId}{e:Array Value}{f:Nat->Int}(hf:TellF zj d g e.toList N f)
 (H:h0.load o 0 1=some [u]) (I:h0.load p 0 1=some [.func (.func g) #[] e]):
 IterN zj 206 [] [ptrTo o,ptrTo p] h0 (fun c=>c=o\/c=p\/c<d.n) ((zG N).map fun(v:Nat)=>[.int .i64 (f v)]):=by
 intro K J Z L Y h F s q
 have C:=s.load k H (.inl rfl)
 have V:Fl u:=by obtain⟨b,_,_,_,rfl,_⟩:=t.ex;exact fO
 refine enter (n:=17) (rs:=[]) rfl Tryz.e206 rfl rfl rfl (lbt rfl) ?_
 simp only [BS,LB,Nat.reduceLT,F02,C]
 refine ar (nG s.ok (t.keep r (s.keep A B (fun c x=>.inr (.inr x))))) ?_
 intro W y
 have D:=s.gr y
 have E:=Y.gr _ _ _ _ q y
 simp only [BS]
 refine bg (fun(i:Nat) j h=>i<=N/\ ∃F,ItS h0 (fun c=>c=o\/c=p\/c<d.n) h F/\J i h F/\j 0=.func (.yield K) #[] #[]/\j 1=ptrTo o/\j 2=ptrTo p/\j 6=.int .i64 (N:Nat)/\j 7=.int .i64 i) (fun i=>N-i) ?_ 0 _ _ ?_
 . clear C s q D E F y h
   intro i M j h ⟨hi,F,s,q,r0,r1,r2,r6,r7⟩
   have w:au .i64 ((i:Int)+1)=((i+1:Nat):Int):=by rw [wrap64]<;>omega
   by_cases hlt:i<N
   . have O:=s.load k I (.inr (.inl rfl))
     have P:((zG N).map fun(v:Nat)=>[Value.int .i64 (f v)])[i]? =some [.int .i64 (f i)]:=by rw [Xb,List.getElem?_range hlt];rfl
     simp only [BS,LB,Nat.reduceLT,Nat.reduceEqDiff,F02,r0,r2,r6,r7,aI,hlt,O]
     refine ar (hf _ s.ok (s.keep A B (fun c x=>.inr (.inr x))) i hlt) ?_
     intro X G
     simp only [BS,LB,Nat.reduceLT,Nat.reduceEqDiff]
     refine ef Y (s.gr G) (Y.gr _ _ _ _ q G) (i:=i) P ?_ ?_ ?_
     . intro z S a T _ _
       simp only [BS,LB,Nat.reduceLT,Nat.reduceEqDiff,r7,w]
       exact M (i+1) _ _ (by omega) ⟨by omega,S,T,a,by simp [ab,r0],by simp [ab,r1,ao],by simp [ab,r2,ao],by simp [ab,r6],by simp [ab]⟩
     . intro z a _
       simp only [BS,LB,Nat.reduceLT,Nat.reduceEqDiff]
       exact iQ rfl ⟨rfl,.inr (.inl ⟨_,rfl,a⟩)⟩
     . intro v z a
       exact absurd a (L v z)
   . simp only [BS,LB,Nat.reduceLT,r6,r7,aI,hlt]
     have:i=N:=by omega
     subst this
     exact dS (dE ⟨rfl,_,rfl,rfl,.inl ⟨_,F,rfl,by simpa using q⟩⟩)
 . exact⟨zw _,F,D,E,by simp [ab,cC],by simp [ab,cC,ao],by simp [ab,cC,ao],by simp [ab],by simp [ab]⟩
theorem pi1_ok{c:Hp}{m N:Nat}{p:Value}{l:List Int}{R Q:Nat->List Int}(a:c.t.Sized c.n)(t:TabAt c m p N l R Q)(o: ∀i,i<l.length->(R i).length=N)(q: ∀i,i<l.length->(Q i).length=N)(r:l.length<1000){f:Value}{d:List Int}(g:ax c 1 (encI .i64) f d)(e:d.length<1000){w:Int}{j b4 b5:Nat}(s:c.load j 0 1=some [p])(u:c.load b4 0 1=some [f])(x:c.load b5 0 1=some [.int .i64 w]):
 TellF zj c 153 [ptrTo j,ptrTo b4,ptrTo b5] N (fun v=>mm N l.length R Q v w d):=by
 intro h y k v A
 have B:Fl p:=by obtain⟨b,_,_,_,rfl,_⟩:=t.ex;exact fO
 have C:=g.fl
 have S:=Si y
 refine ag (n:=11) (rs:=[.tmp 5]) rfl Tryz.e153 rfl rfl rfl (lbt rfl) ?_
 simp only [BS,LB,Nat.reduceLT,Nat.reduceEqDiff,F0D,k.load a s,k.load a u,k.load a x]
 refine ar (bBest_ok S.ok (t.keep a k) o q r (g.keep a k) e) ?_
 intro D z
 replace S:=S.call z
 simp only [BS,LB,ae,Nat.reduceLT,Nat.reduceEqDiff]
 exact S.gr
theorem bPi_ok{h0:Hp}(ok:h0.t.Sized h0.n){m N:Nat}{p:Value}{l:List Int}{R Q:Nat->List Int}(t:TabAt h0 m p N l R Q)(Z: ∀i,i<l.length->(R i).length=N)(hQ: ∀i,i<l.length->(Q i).length=N)(hl:l.length<1000)(hN:N<=1000){va:Value}{f:List Int}(ha:ax h0 1 (encI .i64) va f)(I:f.length<1000){w:Nat}(hw:w<N):
 Ret zj 73 [p,va,.int .i64 (w:Nat)] h0 fun r z=>Gr h0 z/\ax z 1 (encI .i64) r ((zG N).map fun(v:Nat)=>mm N l.length R Q v w f)/\ ∀c,av r c->h0.n<=c:=by
 have fp:Fl p:=by obtain⟨b,_,_,_,rfl,_⟩:=t.ex;exact fO
 have fa:=ha.fl
 have S:=Si ok
 have c0:0<=(w:Int)/\(w:Int)<(N:Int):=by omega
 refine ag (n:=21) (rs:=[.cell 6 24]) rfl Tryz.e73 rfl rfl rfl (lbt rfl) ?_
 simp only [BS,Nat.reduceLT]
 refine am (dp (by assumption)) S ?_;clear S;intro h b3 S aa
 simp only [BS,Nat.reduceLT,Nat.reduceEqDiff,if_false]
 refine am (dp (by assumption)) S ?_;clear S;intro h b4 S ac
 simp only [BS,Nat.reduceLT,Nat.reduceEqDiff,if_false]
 refine am (dp (by exact bI)) S ?_;clear S;intro h b5 S ad
 have A:=S.gr
 have J:=S.ld (b:=b3) (o:=0) m2 rfl
 have l4:=S.ld (b:=b4) (o:=0) m1 rfl
 have l5:=S.ld (b:=b5) (o:=0) m0 rfl
 have q:=S.ok
 clear S
 rename Hp=>hq
 have S:=Si q
 simp only [BS,Fz]
 refine am aF S ?_;clear S;intro h d S af
 simp only [BS,LB,Nat.reduceLT,Nat.reduceEqDiff,Fz,S.old J (fun h=>h),S.old l5 (fun h=>h)]
 refine ar (fS S.ok ((t.gr A).gr S.gr)) ?_
 intro h g;replace S:=S.call g;clear g
 have dc:decide (0<=(w:Int)/\(w:Int)<(N:Int))=true:=decide_eq_true c0
 simp only [BS,LB,Nat.reduceLT,Nat.reduceEqDiff,Fz,dc,S.old J (fun h=>h)]
 have tf:=pi1_ok q (t.gr A) Z hQ hl (ha.gr A) I J l4 l5
 have ak:=(S.row (b:=d) m0).lt S.ok
 refine step_ret (bEach_ok S.ok fp jV) ?_
 rintro r h ⟨g,K,M,rfl,n1,n2,y1,y2⟩
 replace S:=S.call g;clear g
 have O:=bEach_it q S.ok S.gr.keep S.fr.n (t.gr A) hN tf y1 y2
 have kn:=S.fr.n
 have kG:=A.n
 have z1:=bw S.ok y1
 have z2:=bw S.ok y2
 rename Hp=>hE
 have S1:=S
 have P:=S.ok
 have l6:=(S.row (b:=d) m0).lt P
 simp only [BS]
 replace S:=S.base
 replace S:=S.nilG (k:=1)
 generalize B:((zG N).map fun(v:Nat)=>mm N l.length R Q v w f)=xs
 have al:xs.length=N:=by rw [<-B];simp
 replace O:IterN zj 206 [] [ptrTo K,ptrTo M] hE (fun c=>c=K\/c=M\/c<hq.n) (xs.map fun x=>[.int .i64 x]):=by rw [<-B,List.map_map];exact O
 refine kZ S (g:=206) (a:=#[]) (b:=#[ptrTo K,ptrTo M]) (by simp [cy,ab,ao]) rfl rfl ?_
 intro h2 H C s an a0 g2
 obtain⟨X,hX,s⟩: ∃X:fG,X=_/\St (· ∈[d]) hE h2 [(C,.loop X),(H,.dfr),(d,.row [.slice none 0 0] 1)] [(.slice none 0 0,1,[])]:=⟨_,rfl,s⟩
 have hJ:Yld zj C (fun k z F=> ∃(e:Value),St (· ∈[d]) hE z [(C,.loop X),(H,.dfr),(d,.row [e] 1)] [(e,1,ints (xs.take k))]/\k<=xs.length/\F=keys [(C,.loop X),(H,.dfr),(d,.row [e] 1)] [(e,1,ints (xs.take k))]) (fun _ _=>False) (xs.map fun x=>[.int .i64 x]):=by
  refine⟨?_,?_,fun _ _ h=>h.elim,?_⟩
  . rintro i h F ⟨e,S,_,rfl⟩;exact⟨S.ok,fun b u=>S.key_lt u⟩
  . rintro i h F z ⟨e,S,a,rfl⟩ gg;exact⟨e,S.call gg,a,rfl⟩
  . rintro i x Z F U ⟨e,S,a,rfl⟩
    have D:i<xs.length:=by
     have:=(List.getElem?_eq_some_iff.1 U).1
     simpa using this
    rw [Xb,zo D]at U
    cases U
    have tk:ints (xs.take (i+1))=ints (xs.take i)++[.int .i64 xs[i]]:=by rw [List.take_add_one,zo D];exact mJ _ _
    have tl:(xs.take i).length<=i:=by rw [zH];omega
    subst hX
    refine lz (S.get m0) (by rw [Tryz.e73];rfl) rfl ?_
    have S0:=S
    replace S:=S.base
    simp only [BS,LB,Nat.reduceLT,Nat.reduceEqDiff]
    refine jB S (i:=0) rfl rfl rfl rfl rfl ?_
    clear S;intro h S
    simp only [LC]at S
    simp only [BS,LB,Nat.reduceLT,Nat.reduceEqDiff,Fz,S.ld (b:=d) (o:=0) m2 rfl]
    refine am (bW (by exact Tryz.t24.1) (by exact Xk) (by decide) (by rfl)) S ?_;clear S;intro h bs S ai;simp only [LC,aV,bJ,ah,Nat.reduceMul,Nat.reduceAdd,zz,zF,zx,zJ]at S
    simp only [BS,LB,Nat.reduceLT,Nat.reduceEqDiff]
    have E:aL h 1 (.slice (some ⟨bs,0,none⟩) 1 1)=some (1,[.int .i64 xs[i]]):=by simp only [aL];rw [S.lds (b:=bs) (o:=0) (n:=1*1) m0 (lbt rfl)];rfl
    replace S:=S.drop1
    refine dQ (S.grow (j:=0) (m:=1) (new:=[.int .i64 xs[i]]) rfl Tryz.t24.1 Xk (by decide) Tryz.t24.2.2.2.2.2 E rfl (by decide) rfl (by rw [cZ];simp;omega)) ?_
    clear S E;rintro h G S
    simp only [LC]at S
    have V:Fl G:=(S.gown _ m0).1.fl
    simp only [BS,LB,Nat.reduceLT,Nat.reduceEqDiff]
    refine aH (aC S (i:=2) rfl Tryz.t24.2.2.1 V (zp (lbt rfl)) ono) ?_
    clear S;rintro h ⟨S,_⟩
    simp only [LC]at S
    simp only [BS]
    refine gH S (i:=0) rfl ?_
    clear S;intro h S
    simp only [LC]at S
    rw [<-tk]at S
    exact .inl ⟨rfl,_,⟨G,S0.rebase S,by omega,rfl⟩,S.fr,fun c W=>(S.key_own W).symm⟩
 refine iN (O C _ _ (fun _ _ h=>h) hJ h2 _ ?_ ⟨_,s,zw _,rfl⟩) fun o rc z y=>lx y ?_
 . refine⟨s.ok,s.fr.n,fun b u hd=>g2.get b u,fun b u h=>?_,fun b u=>s.key_lt u⟩
   rcases s.key_own u with h1|h1
   . omega
   . have:=List.mem_singleton.1 h1
     omega
 . rintro F ⟨e,T,b,rfl⟩
   rw [zR,Xg]at T
   subst hX
   refine⟨_,T.get m0,Nat.zero_ne_one,?_⟩
   replace T:=T.dead
   have S:=T
   show Run _ _ _ _ _ _ _ _
   simp only [BS,LB,Nat.reduceLT,Nat.reduceEqDiff,Fz,S.ld (b:=d) (o:=0) m1 rfl]
   have V:Fl e:=(T.gown _ m0).1.fl
   clear S
   refine aH (aC T (i:=1) rfl Tryz.t24.2.2.1 V (zp (lbt rfl)) ono) ?_
   clear T;rintro h3 ⟨T,_⟩
   simp only [List.set_cons_zero,List.set_cons_succ]at T
   simp only [BS]
   refine gL (kc [H] _ (L:=[(d,_)]) T.base fun h4 Y=>?_)
   refine⟨rfl,(dC (by decide) (by simp only [aQ,ao,Nat.reduceEqDiff,reduceIte];exact me Tryz.t24.2.1 (Y.ld (b:=d) (o:=0) m0 rfl))).2 (dX.2 ⟨A.trans ((S1.rebase T).rebase Y).gr,(Y.gown _ m0).1.sl rfl (fun _=>rfl) (by decide),fun c W=>?_⟩)⟩
   rcases(T.gblk m0 W).1 with h|h
   . omega
   . have:=List.mem_singleton.1 h
     omega
def Tryz.Fm:=aj t1<|aj t2<|aj t3<|aj t4<|aj t5<|aj t6<|aj Z2<|aj Z5<|aj t9<|aj t10<|aj t11<|aj t24<|aj t32<|aj t33<|aj t48<|aj t74<|aj Z7<|aj t114<|aj r114<|aj Z3<|aj t196<|aj t217<|aj t237<|aj t250<|aj t275<|aj Z13<|aj Z6<|Z8
def zS:SS:=⟨fun _=>none,fun _=>0,fun _=>[],[],[]⟩
def FdAt(h:Hp)(m:Nat)(r:Value)(b:Fd):Prop:= ∃d a,r=.agg ⟨[.int .i64 (b.dist:Nat),d,a]⟩/\dz h (d,1,b.arcs.flatMap cI)/\dz h (a,4,b.ev.flatMap fT)/\(∀c,av d c->m<=c/\ ¬av a c)/\ ∀c,av a c->m<=c
theorem uO(A:List Arc)(b:Nat->Bool)(pi:Nat->Int)(v:Nat)(σ:SS):(jQ A b pi v σ).ev.length<=σ.ev.length+A.length:=by
 have: ∀(l:List Nat) (σ:SS),(l.foldl (scan1 A b pi v) σ).ev.length<=σ.ev.length+l.length:=by
  intro l
  induction l with
  |nil=>intro σ;simp
  |cons a l c=>intro σ;have d:=c (scan1 A b pi v σ a);have e:=wI A b pi v σ a;simp only [List.foldl_cons,List.length_cons];omega
 have d:=this (outs A Arc.s A.length v) σ
 have e:=oO A Arc.s A.length v
 unfold jQ
 omega
theorem srun_ok {y h0:Hp} (aa:y.t.Sized y.n) (gq:Gr y h0) {g:Gra} (w:Good g) {nb C:Nat} (hn:cE y nb (ptrTo C) g) {B0:List Nat} {br u s to:Nat} {D E:FuncId} {P:Nat->Bool} {pi:Nat->Int} (R0:eA h0 B0 br (ptrTo C) (.func (.func D) #[] #[ptrTo u]) (.func (.func E) #[] #[ptrTo u]) g.nodes zS) (ac: ∀c∈B0,y.n<=c) (a5:AlF zj y D u g.arcs.length P) (ad:PiF zj y E u g.nodes pi) (hp: ∀v,v<g.nodes-> -(FAR:Int)<=pi v)
 (hs:s<g.nodes) (b0:to<g.nodes):
 Ret zj 152 [ptrTo br,.int .i64 (s:Nat),.int .i64 (to:Nat)] h0 fun r h'=>Gr y h'/\ ∃fd,Ends g.arcs P pi to (iv pi s) fd/\FdAt h' y.n r fd:=by
 have ok:=gq.ok
 have n1:=w.n1
 have n2:=w.n2
 have bT:=w.many
 have wm:=oe
 have fr:=nH
 have hA: ∀a∈g.arcs,a.t<g.nodes/\a.w<=co:=fun a ha=>⟨(w.arcs a ha).2.1,(w.arcs a ha).2.2⟩
 have lB:=R0.lt ok
 have S:=Si ok
 refine ag (n:=79) (rs:=[.cell 6 114]) rfl Tryz.e152 rfl rfl rfl (lbt rfl) ?_
 simp only [BS,Fm]
 refine am aF S ?_;clear S;intro h l S J
 simp only [BS,LB,Nat.reduceLT,Nat.reduceEqDiff]
 have K:=S.row (b:=l) m0
 have gA:=S.gr
 have a6:=S.ok
 have l6:=K.lt a6
 have n6:l∉B0:=fun h=>by have:=lB l h;have:=J;omega
 have q6:y.n<=l:=zk gq.n J
 clear S
 rename Hp=>hA'
 have rc:Ret zj 217 [ptrTo br,.int .i64 (s:Nat),.int .i64 0,.int .i64 (-1)] hA' _:=tO (p:=[]) (lab:=0) (gq.trans gA) (R0.gr gA) ad n2 hs (zw _) (hp s hs) (fun k h=>by cases h)
 refine step_ret rc ?_
 rintro r h1 ⟨f1,B1,R1,af⟩
 clear rc
 simp only [BS]
 refine bg (fun(σ:SS) ρ h=> ∃B,Mo (fun c=>c∈B0\/c=l) hA' h/\Row h l [.int .i64 0,.slice none 0 0,.slice none 0 0] 1/\eA h B br (ptrTo C) (.func (.func D) #[] #[ptrTo u]) (.func (.func E) #[] #[ptrTo u]) g.nodes σ/\(∀c∈B,c∈B0\/hA'.n<=c)/\Sv g.arcs g.nodes s P pi σ/\σ.ev.length<=σ.O.length*200/\(∀r,Ends g.arcs P pi to σ r->Ends g.arcs P pi to (iv pi s) r)/\ρ 0=ptrTo br/\ρ 1=.int .i64 (s:Nat)/\ρ 2=.int .i64 (to:Nat)/\ρ 6=ptrTo l) (fun σ=>g.nodes-σ.O.length) ?_ (iv pi s) _ _ ?_
 . clear R1 f1 af B1 h1
   intro σ ih ρ hS ⟨B,f,row6',R,hB,sv,hev,hE,r0,r1,r2,r6⟩
   have Q: ∀c∈B,y.n<=c:=fun c d=>(hB c d).elim (ac c) (fun h=>by have:=(gq.trans gA).n;omega)
   have gh:Gr y hS:=(((gq.trans gA).fr (M:=NoM)).trans f (fun c d=>.inr (d.elim (ac c) (fun e=>by subst e;exact q6)))).gr
   have T:l∉B:=fun h=>(hB l h).elim n6 (fun h=>by omega)
   have ol:=sv.len
   have b3:σ.O.length*co<=12*co:=Nat.mul_le_mul_right _ (zk ol n2)
   obtain⟨N,bb,bk,U,F,vE,ai,S,H,hF⟩:=R.open f.ok
   have ak: ∀c∈keys (srL br N bb bk g.nodes (ptrTo C) (ptrTo U) (.func (.func D) #[] #[ptrTo u]) (.func (.func E) #[] #[ptrTo u]) vE σ) (srG vE σ),c∈B:=fun c d=>by rw [ai];exact Xl _ d
   have V: ∀c∈F,c∈B:=fun c d=>by rw [ai];exact zO _ d
   have lF:=H.lt f.ok
   replace S:=(S.base.mono (M':=fun c=>c∈B\/c=l) (fun c d=>.inl (ak c d))).push (b:=l) (o:=.row _ 1) (.inr (.inr rfl)) row6' (fun h=>T (ak l h))
   have a7: ∀c∈F,c≠l:=fun c d e=>T (by rw [<-e];exact V c d)
   have W: ∀c∈F,c∉keys ((l,Ob.row [.int .i64 0,.slice none 0 0,.slice none 0 0] 1)::srL br N bb bk g.nodes (ptrTo C) (ptrTo U) (.func (.func D) #[] #[ptrTo u]) (.func (.func E) #[] #[ptrTo u]) vE σ) (srG vE σ):=fun c d X=>(List.mem_cons.1 X).elim (a7 c d) (hF c d)
   unfold srL srG at S
   simp only [BS,LB,Nat.reduceLT,Nat.reduceEqDiff,Fm,r0,S.ld (b:=br) (o:=1) m1 rfl]
   refine step_ret (yO S.ok H (by omega)) ?_
   rintro rv h2 (⟨rfl,Y,bc⟩|⟨v,k,rfl,hk,an,f2,H2⟩)
   . replace S:=S.call bc
     have Z:Fl vE:=(S.gown _ m0).1.fl
     simp only [BS,LB,Nat.reduceLT,Nat.reduceEqDiff,Nat.reduceAdd,Fm,r0,r6,Z,S.ld (b:=br) (o:=7) m1 rfl]
     refine aH (S.store (i:=0) rfl Tryz.t114.2.1 (by intro x e;cases e) rfl (by simp only [ah,zM,zP,Z.2.1,zn];rfl) (lbt rfl) ono) ?_
     clear S;rintro h3 ⟨S,mo⟩
     simp only [LC,ah,lay,zt,zu,Nat.reduceAdd]at S
     simp only [BS,ae]
     refine(dC (by decide) (by simp only [aQ,r6,ao,Nat.reduceEqDiff,reduceIte];exact cR Tryz.t114.1 Tryz.t114.2.1 (S.lds (b:=l) (o:=0) (n:=3) m0 (lbt rfl)))).2 (dX.2 ?_)
     refine⟨(gh.fr (M:=NoM)).trans S.fr (fun c d=>.inr (d.elim (Q c) (fun e=>by subst e;exact q6)))|>.gr,_,hE _ (.none Y),.slice none 0 0,vE,rfl,.inl ⟨rfl,rfl⟩,(S.gown _ m0).1,fun c d=>d.elim,fun c d=>?_⟩
     have:=(S.gown _ m0).2 c (jj (S.gown _ m0).1 d)
     exact this.elim (fun h=>zk gh.n h) (fun h=>h.elim (Q c) (fun e=>by subst e;exact q6))
   . have O:Pops σ.K v k:=⟨hk,an⟩
     obtain⟨ov,nO,pv,ek⟩:=sv.op v k hk
     replace S:=S.stepF f2 (fun c d=>⟨.inl (.inl (V c d)),W c d⟩)
     have bv:=(sv.bd v).1
     have Sp:=S
     have bd:=H2.lt Sp.ok
     have kp: ∀c∈keys ((l,Ob.row [.int .i64 0,.slice none 0 0,.slice none 0 0] 1)::srL br N bb bk g.nodes (ptrTo C) (ptrTo U) (.func (.func D) #[] #[ptrTo u]) (.func (.func E) #[] #[ptrTo u]) vE σ) (srG vE σ),hS.n<=c\/c∈B\/c=l:=fun c d=>Sp.key_own d
     have kl:=fun {c} d=>Sp.key_lt (b:=c) d
     have np:=Sp.fr.n
     replace S:=S.base
     have Z:Fl vE:=(S.gown _ m0).1.fl
     simp only [BS,LB,Nat.reduceLT,Nat.reduceEqDiff,Fm,r0,ov,S.ld (b:=br) (o:=4) m1 rfl]
     refine aH (aC S (i:=4) rfl Tryz.t4.2.2.1 fl_bool (by rw [clC_len];exact ov) ono) ?_
     clear S;rintro h3 ⟨S,b4⟩
     simp only [LC]at S
     rw [clC_set]at S
     have lL:=(S.row (b:=N) m2).load1 (qj (L:=σ.L) ov)
     simp only [BS]
     refine aE (aK rfl) (q:=16384) (ps:=[]) (by kernel_rfl) ?_
     simp only [BS,LB,cls,Nat.reduceLT,Nat.reduceEqDiff,Nat.reduceAdd,Nat.reducePow,Nat.reduceDiv,Nat.reduceMod,Nat.reduceLeDiff,Fm,r0,ov,lL,S.ld (b:=br) (o:=7) m1 rfl,S.ld (b:=br) (o:=2) m1 rfl]
     refine dw (bW (by exact Tryz.t48.1) (by exact Tryz.e94E) (by decide) (by rfl)) S ?_;clear S;intro h bs S bX bY;simp only [LC,aV,bJ,ah,Nat.reduceMul,Nat.reduceAdd,zz,zF,zx,zJ]at S
     simp only [BS,LB,cls,Nat.reduceLT,Nat.reduceEqDiff,Nat.reduceAdd,Nat.reducePow,Nat.reduceDiv,Nat.reduceMod,Nat.reduceLeDiff]
     have a0:aL h 4 (.slice (some ⟨bs,0,none⟩) 1 1)=some (1,fT ⟨0,v,σ.L v⟩):=by simp only [aL];rw [S.lds (b:=bs) (o:=0) (n:=1*4) m0 (lbt rfl)];rfl
     replace S:=S.drop1
     refine dn_v (S.grow (j:=0) (m:=1) (new:=fT ⟨0,v,σ.L v⟩) rfl Tryz.t48.1 Tryz.e94E (by decide) Tryz.t48.2.2.2.2.2 a0 rfl (by decide) rfl (by rw [aU rJ];show(_+4)*_<=_;omega)) ?_
     clear S a0;rintro h2 t S
     simp only [LC]at S
     have A:Fl t:=(S.gown _ m0).1.fl
     simp only [BS,LB,cls,Nat.reduceLT,Nat.reduceEqDiff,Nat.reduceAdd,Nat.reducePow,Nat.reduceDiv,Nat.reduceMod,Nat.reduceLeDiff,Fm]
     refine cU (aC S (i:=1) rfl Tryz.t48.2.2.1 A (zp (lbt rfl)) ono) ?_
     clear S;rintro h3 ⟨S,_⟩
     simp only [LC]at S
     have eE:(σ.ev++[(⟨0,v,σ.L v⟩:Ev)]).flatMap fT=σ.ev.flatMap fT++fT ⟨0,v,σ.L v⟩:=by rw [List.flatMap_append];simp
     rw [<-eE]at S
     have bq: ∀c,hS.n<=c\/c∈B\/c=l->y.n<=c:=fun c d=>d.elim (fun h=>zk gh.n h) (fun h=>h.elim (Q c) (fun e=>by subst e;exact q6))
     have wq:=(((gh.fr (M:=NoM)).trans Sp.fr (fun c d=>.inr (bq c (.inr d)))).trans S.fr (fun c d=>.inr (bq c (kp c d)))).gr
     have G:=sv.close hk
     have kn:=fun {c} d=>S.key_own (b:=c) d
     have nS:=S.fr.n
     have be: ∀c∈F,c∉keys (srL br N bb bk g.nodes (ptrTo C) (ptrTo U) (.func (.func D) #[] #[ptrTo u]) (.func (.func E) #[] #[ptrTo u]) t (cu σ v)) (srG t (cu σ v)):=fun c d X=>by
      rcases kn (zY _ X)with h|h
      . have:=bd c d;omega
      . exact W c d h
     have Hc:cF _ F (ptrTo U) g.nodes (cu σ v).K:=H2.mo S.fr (fun c d X=>W c d X)
     have Rc:=eA.close (σ:=cu σ v) (vE:=t) S.drop1 Hc be
     have I: ∀c∈keys (srL br N bb bk g.nodes (ptrTo C) (ptrTo U) (.func (.func D) #[] #[ptrTo u]) (.func (.func E) #[] #[ptrTo u]) t (cu σ v)) (srG t (cu σ v))++F,hS.n<=c\/c∈B:=fun c d=>by
      rcases List.mem_append.1 d with d|d
      . have ne:c≠l:=fun e=>by
         subst e
         exact(List.nodup_cons.1 S.apart).1 d
        rcases kn (zY _ d)with h|h
        . exact .inl (by omega)
        . exact(kp c h).imp (fun h=>h) (fun h=>h.elim (fun h=>h) (fun e=>absurd e ne))
      . exact .inr (V c d)
     have a1: ∀c∈keys (srL br N bb bk g.nodes (ptrTo C) (ptrTo U) (.func (.func D) #[] #[ptrTo u]) (.func (.func E) #[] #[ptrTo u]) t (cu σ v)) (srG t (cu σ v))++F,y.n<=c:=fun c d=>bq c ((I c d).imp (fun h=>h) .inl)
     have bf:=S.ok
     have k3:=fun {c} d=>S.key_lt (b:=c) d
     have bo: ∀c,hS.n<=c\/c∈B\/c=l->(c∈B0\/c=l)\/hA'.n<=c:=fun c d=>d.elim (fun h=>.inr (zk f.n h)) (fun h=>h.elim (fun h=>(hB c h).imp .inl (fun h=>h)) (fun e=>.inl (.inr e)))
     have bh:=Rc.lt bf
     by_cases hv:v=to
     . subst hv
       simp only [BS,LB,Nat.reduceLT,Nat.reduceEqDiff,Nat.reduceAdd,r0,r2]
       refine step_ret (sback_ok S.ok) ?_
       rintro rv h4 ⟨g4,b1,b2,rfl,b5,bi,nb,e1,e2⟩
       replace S:=S.call g4
       have b7:=g4.n
       simp only [BS,LB,Nat.reduceLT,Nat.reduceEqDiff]
       have pl:=(G.bd v).2
       have b8:=G.len
       refine step_ret (xM S.ok (back_it aa (wq.trans g4) w hn (Rc.gr g4) G (zO _ (by simp)) e1 e2 (fun h=>by have:=bh b2 h;omega) nb (zk wq.n bi)) (fun b hb=>by subst hb;exact e2.lt g4.ok) (by omega)) ?_
       rintro vA h5 ⟨fW,bm,z⟩
       replace S:=S.step fW (fun c d=>.inr (by subst d;omega)) (fun c d e=>by subst e;have:=k3 d;omega)
       simp only [BS,LB,Nat.reduceLT,Nat.reduceEqDiff]
       refine step_ret (xB S.ok bm (by omega)) ?_
       rintro rv h6 ⟨fR,gR⟩
       have b9:=fW.n
       have ca: ∀c,av vA c->_<=c:=z
       replace S:=S.step fR (fun c d=>.inr (by have:=z c d;omega)) (fun c d hb=>by have:=k3 d;have:=z c hb;omega)
       have a2:Fl vA:=gR.fl
       have lL:=(S.row (b:=N) m2).load1 (qj (L:=σ.L) ov)
       simp only [BS]
       refine aE (aK rfl) (q:=0) (ps:=[]) (by kernel_rfl) ?_
       simp only [BS,LB,cls,Nat.reduceLT,Nat.reduceEqDiff,Nat.reduceAdd,Nat.reducePow,Nat.reduceDiv,Nat.reduceMod,Nat.reduceLeDiff,Fm,r0,r2,r6,ov,lL,A,a2,S.ld (b:=br) (o:=2) m1 rfl,S.ld (b:=br) (o:=7) m1 rfl]
       refine cU (S.store (i:=0) rfl Tryz.t114.2.1 (by intro x e;cases e) rfl (by simp only [ah,zM,zP,A.2.1,a2.2.1,zn];rfl) (lbt rfl) ono) ?_
       have bn: ∀c,av vA c->c≠l:=fun c d e=>by have:=z c d;have:=k3 (c:=l) (by simp [keys]);omega
       have kA: ∀c,av vA c-> ¬av t c:=fun c d he=>by
        have:=z c d
        have:=k3 (eQ (p:=(t,4,_)) m0 (jj (S.gown _ m0).1 he))
        omega
       clear S;rintro h7 ⟨S,mo⟩
       simp only [LC,ah,lay,zt,zu,Nat.reduceAdd]at S
       simp only [BS,LB,ae,Nat.reduceAdd]
       refine(dC (by decide) (by simp only [aQ,r6,ao,Nat.reduceEqDiff,reduceIte];exact cR Tryz.t114.1 Tryz.t114.2.1 (S.lds (b:=l) (o:=0) (n:=3) m0 (lbt rfl)))).2 (dX.2 ?_)
       have bt:=(((gh.fr (M:=NoM)).trans Sp.fr (fun c d=>.inr (bq c (.inr d)))).trans S.fr (fun c d=>.inr (bq c (kp c d)))).gr
       refine⟨bt,_,hE _ (.hit O),vA,t,rfl,gR.of_get (fun c d=>mo.get c (gR.lt fR.ok d) ?_),(S.gown _ m0).1,fun c d=>⟨by have:=z c d;have:=wq.n;omega,kA c d⟩,fun c d=>?_⟩
       . obtain⟨a',n',e',_⟩: ∃a' n',vA=Value.slice (some ⟨a',0,some 1⟩) n' n'/\a'=c:=by
          rcases gR with⟨e,_⟩|⟨b',n',e,_⟩
          . simp only []at e;rw [e]at d;cases d
          . simp only []at e;rw [e]at d;cases d;exact⟨_,_,e,rfl⟩
         exact bn c (by rw [e'];assumption)
       . exact bq c (((S.gown _ m0).2 c (jj (S.gown _ m0).1 d)).elim (fun h=>.inl (zk np h)) (fun h=>kp c h))
     . have bx: ¬((v:Int)=(to:Int)):=by omega
       simp only [BS,LB,Nat.reduceLT,Nat.reduceEqDiff,Nat.reduceAdd,r0,r2,bx]
       obtain⟨a3,bB⟩:=sv.next hA hk
       refine step_ret (sscan_ok aa wq w hn Rc a1 a5 ad hp ov G (sv.room v) (by show(σ.ev++[_]).length<=10000;simp;omega)) ?_
       rintro rv h4 ⟨f4,B4,R4,bF⟩
       simp only [BS]
       have es:=uO g.arcs P pi v (cu σ v)
       have eO:(jQ g.arcs P pi v (cu σ v)).O=σ.O++[v]:=bB.O
       have ec:(cu σ v).ev.length=σ.ev.length+1:=by show(σ.ev++[_]).length=_;simp
       have a4:=a3.len
       rw [eO]at a4
       simp at a4
       refine ih _ _ _ (by rw [eO];simp;omega) ⟨B4,?_,?_,R4,?_,a3,by rw [eO];simp;omega,fun r hr=>hE r (.step O hv hr),by simp [ab,r0,ao],by simp [ab,r1],by simp [ab,r2],by simp [ab,r6,ao]⟩
       . exact((f.trans Sp.fr (fun c d=>bo c (.inr d))).trans S.fr (fun c d=>bo c (kp c d))).trans f4 (fun c d=>bo c ((I c d).imp (fun h=>h) .inl))
       . exact f4.has (o:=.row _ 1) (S.row m0) (fun X=>(I l X).elim (fun h=>by have:=f.n;omega) T)
       . exact fun c d=>(bF c d).elim (fun h=>(I c h).elim (fun h=>.inr (zk f.n h)) (hB c)) (fun h=>.inr (by have:=f.n;omega))
 . have k0:(iv pi s).ev.length=0:=by unfold iv;rw [wX];rfl
   exact⟨B1,f1.mono (fun c d=>.inl d),f1.has (o:=.row _ 1) K n6,R1,af,qF hs,by omega,fun r hr=>hr,by simp [ab,bu,ao],by simp [ab,bu,dF],by simp [ab,bu,dF],by simp [ab,ao]⟩
def Tryz.F03:=aj t1<|aj t2<|aj t3<|aj t4<|aj t24<|aj t74<|Z15
def Tryz.F04:=aj t1<|aj t2<|aj t3<|aj t4<|aj t24<|aj t74<|Z15
def Tryz.Fo:=aj t1<|aj t2<|aj t3<|aj t4<|aj t5<|aj t6<|aj t24<|aj Z0<|aj t32<|aj t33<|aj t48<|aj t74<|aj Z7<|aj Z15<|aj t189<|aj Z3<|aj t196<|aj t217<|aj t237<|aj t275<|aj Z13<|aj Z6<|Z8
def Tryz.F05:=aj t1<|aj t3<|aj t4<|t74
def Tryz.F06:=aj t1<|aj t2<|aj t3<|aj t4<|t24
def Tryz.F0E:=aj t1<|aj t2<|aj t3<|aj t4<|aj t24<|aj t29<|aj Z0<|aj t32<|aj t33<|aj Z1<|aj t189<|Z3
def Tryz.F0F:=aj t1<|aj t3<|aj t4<|aj Z0<|aj t32<|aj t189<|Z3
def Tryz.F8:=aj t1<|aj t2<|aj t3<|aj t4<|aj t5<|aj t6<|aj Z2<|aj Z5<|aj t24<|aj Z0<|aj t32<|aj t33<|aj t45<|aj t48<|aj t74<|aj Z7<|aj t114<|aj r114<|aj Z15<|aj t189<|aj Z3<|aj t196<|aj t217<|aj t237<|aj t275<|Z13
def alF(als:List Bool)(a:Nat):Bool:=als.isEmpty||als.getD a false
def piF(a:List Int)(v:Nat):Int:=if a=[]then 0 else max (-72057594037927936) (a.getD v 0)
theorem piF_lo(a:List Int)(v:Nat): -(FAR:Int)<=piF a v:=by
 have:=nH
 unfold piF
 split<;>omega
theorem al_ok{k:Hp}{p n:Nat}{i:Value}{als:List Bool}(s:k.load p 2 1=some [i])(t:ax k 1 encB i als)(q:als=[]\/als.length=n):AlF zj k 215 p n (alF als):=by
 intro h g a v
 have S:=Si g.ok
 have r:=g.load s
 have d:=t.gr g
 rcases q with rfl|q
 . refine ag (n:=15) (rs:=[.tmp 3]) rfl Tryz.e215 rfl rfl rfl (lbt rfl) ?_
   simp only [BS,LB,ae,Nat.reduceLT,Nat.reduceEqDiff,zq,F03,r,d.lenq]
   exact⟨rfl,S.gr⟩
 . have u: ¬((als.length:Int)=0):=by omega
   have f:a<als.length:=by omega
   obtain⟨c,o,j,m⟩:=d.ix (kd:=.i64) encB_len f
   have e:alF als a=als[a]:=by
    unfold alF
    cases als with
    |nil=>simp at f
    | cons b l=>
      show(false||(b::l).getD a false)=_
      rw [zl,zo f];rfl
   rw [e]
   refine ag (n:=15) (rs:=[.tmp 3]) rfl Tryz.e215 rfl rfl rfl (lbt rfl) ?_
   simp only [BS,LB,ae,Nat.reduceLT,Nat.reduceEqDiff,F03,r,d.lenq,u,j,m,encB]
   exact S.gr
theorem pi_ok{j:Hp}{l n:Nat}{vPi:Value}{b:List Int}(q:j.load l 3 1=some [vPi])(r:ax j 1 (encI .i64) vPi b)(m:b=[]\/b.length=n):PiF zj j 216 l n (piF b):=by
 intro h g a t
 have S:=Si g.ok
 have p:=g.load q
 have d:=r.gr g
 rcases m with rfl|m
 . refine ag (n:=14) (rs:=[.tmp 3]) rfl Tryz.e216 rfl rfl rfl (lbt rfl) ?_
   simp only [BS,LB,ae,Nat.reduceLT,Nat.reduceEqDiff,zq,F04,p,d.lenq]
   exact⟨rfl,S.gr⟩
 . have s: ¬((b.length:Int)=0):=by omega
   have f:a<b.length:=by omega
   obtain⟨c,o,i,k⟩:=d.ix (kd:=.i64) (cO .i64) f
   have e:piF b a=max (-72057594037927936) b[a]:=by
    unfold piF
    rw [if_neg (by intro e;subst e;simp at f)]
    simp [zl,f]
   rw [e]
   refine ag (n:=14) (rs:=[.tmp 3]) rfl Tryz.e216 rfl rfl rfl (lbt rfl) ?_
   simp only [BS,LB,ae,Nat.reduceLT,Nat.reduceEqDiff,F04,p,d.lenq,s,i,k,encI]
   exact S.gr
theorem sstart_ok{h0:Hp}(T:h0.t.Sized h0.n){d:Gra}(p:Good d){U u:Nat}(l:cE h0 U (ptrTo u) d){s to:Int}{k vPi:Value}(fA:Fl k)(fP:Fl vPi):
 Ret zj 151 [ptrTo u,.agg ⟨[.int .i64 s,.int .i64 to,k,vPi]⟩] h0 fun r E=> ∃br f j B,r=ptrTo br/\Gr h0 j/\Gr j E/\j.load f 2 1=some [k]/\j.load f 3 1=some [vPi]/\eA E B br (ptrTo u) (.func (.func 215) #[] #[ptrTo f]) (.func (.func 216) #[] #[ptrTo f]) d.nodes zS/\ ∀c∈B,j.n<=c:=by
 have V:=p.n1
 have n2:=p.n2
 have S:=Si T
 refine ag (n:=34) (rs:=[.tmp 4]) rfl Tryz.e151 rfl rfl rfl (lbt rfl) ?_
 simp only [BS,Nat.reduceLT]
 refine am (bE (by intro x e;cases e)) S ?_;clear S;intro h f S G;simp only [ah]at S
 have y:=S.gr
 have W:=S.ld (b:=f) (o:=2) m0 rfl
 have X:=S.ld (b:=f) (o:=3) m0 rfl
 clear S
 rename Hp=>j
 replace l:=l.gr y
 have S:=Si y.ok
 simp only [BS]
 refine aE (aK rfl) (q:=2880) (ps:=[]) (by kernel_rfl) ?_
 simp only [BS,LB,cls,Nat.reduceLT,Nat.reduceEqDiff,Nat.reduceAdd,Nat.reducePow,Nat.reduceDiv,Nat.reduceMod,Nat.reduceLeDiff]
 refine dg (dN S.ok (l.gr S.gr)) ?_;intro h g;replace S:=S.call g;clear g
 simp only [BS,LB,cls,Nat.reduceLT,Nat.reduceEqDiff,Nat.reduceAdd,Nat.reducePow,Nat.reduceDiv,Nat.reduceMod,Nat.reduceLeDiff]
 refine cM (y7 S.ok) ?_;rintro Y h ⟨g,F,H,Z⟩
 have k0:=S.fr.n
 replace S:=S.call g;clear g
 have pp: ∃b,Y=ptrTo b:=by obtain⟨b,_,_,e,_⟩:=H.ex;exact⟨b,e⟩
 obtain⟨I,rfl⟩:=pp
 have m:=S
 have lF:=H.lt m.ok
 rename Hp=>h_H
 replace S:=S.base
 simp only [BS,LB,cls,Nat.reduceLT,Nat.reduceEqDiff,Nat.reduceAdd,Nat.reducePow,Nat.reduceDiv,Nat.reduceMod,Nat.reduceLeDiff]
 refine dg (dN S.ok (l.gr (m.rebase S).gr)) ?_;intro h g;replace S:=S.call g;clear g
 simp only [BS,LB,cls,Nat.reduceLT,Nat.reduceEqDiff,Nat.reduceAdd,Nat.reducePow,Nat.reduceDiv,Nat.reduceMod,Nat.reduceLeDiff]
 refine dw (nZ (by exact Tryz.t24.1) (by exact Xk) (by omega) (by omega)) S ?_;clear S;intro h z S J K
 simp only [BS,LB,cls,Nat.reduceLT,Nat.reduceEqDiff,Nat.reduceAdd,Nat.reducePow,Nat.reduceDiv,Nat.reduceMod,Nat.reduceLeDiff,zN]
 refine nK (dN (h0:={h with lo:=h.n}) S.ok ((l.gr (m.rebase S).gr).keep S.ok (fun _ _=>rfl))) ?_;intro h g;replace S:=S.call g;clear g
 simp only [BS,LB,cls,Nat.reduceLT,Nat.reduceEqDiff,Nat.reduceAdd,Nat.reducePow,Nat.reduceDiv,Nat.reduceMod,Nat.reduceLeDiff]
 refine dw (nZ (by exact Tryz.t74.1) (by exact Tryz.e4E) (by omega) (by omega)) S ?_;clear S;intro h A S L M
 simp only [BS,LB,cls,Nat.reduceLT,Nat.reduceEqDiff,Nat.reduceAdd,Nat.reducePow,Nat.reduceDiv,Nat.reduceMod,Nat.reduceLeDiff,Fo,zN]
 refine dw (bE (by intro x e;cases e)) S ?_;clear S;intro h br S N O;simp only [ah]at S
 simp only [BS,LB,cls,Nat.reduceLT,Nat.reduceEqDiff,Nat.reduceAdd,Nat.reducePow,Nat.reduceDiv,Nat.reduceMod,Nat.reduceLeDiff]
 refine am (bW (by exact Tryz.t33.1) (by exact zT) (by decide) (by rfl)) S ?_;clear S;intro h P S Q;simp only [LC,aV,bJ,ah,Nat.reduceMul,Nat.reduceAdd,zz,zF,zx,zJ]at S
 simp only [BS,LB,Nat.reduceLT,Nat.reduceEqDiff]
 refine ar (dN S.ok (l.gr (m.rebase S).gr)) ?_;intro h g;replace S:=S.call g;clear g
 simp only [BS,LB,Nat.reduceLT,Nat.reduceEqDiff]
 have C:=fun {c} (a:c∈_)=>S.key_lt (b:=c) a
 have kn:=S.fr.n
 refine step_ret (repI_ok S.ok (x:= -1) (.inr ⟨P,0,none,1,rfl,zU _,S.lds (b:=P) (o:=0) (n:=1*1) m0 (lbt rfl)⟩) V (by omega)) ?_;intro v h ⟨g,w,eb,nb',Rb⟩;replace S:=S.call g;clear g
 subst eb
 replace S:=S.drop1
 replace S:=S.push (b:=w) (o:=.row _ 1) (.inl (zk kn nb')) Rb (fun D=>by have:=C (zY _ D);omega)
 simp only [BS,LB,Nat.reduceLT,Nat.reduceEqDiff,Fo]
 refine aH (aC S (i:=1) rfl ?_ ?_ ?_ ono) ?_
 . exact(by simp only [Fo])
 . exact(by exact bD)
 . exact zp (lbt rfl)
 clear S;rintro h ⟨S,t⟩;clear t;simp only [LC,ah,lay,zt,zu,Nat.reduceAdd]at S
 simp only [BS,LB,Nat.reduceLT,Nat.reduceEqDiff,Fo]
 refine aH (aC S (i:=1) rfl ?_ ?_ ?_ ono) ?_
 . exact(by simp only [Fo])
 . exact(by exact jV)
 . exact zp (lbt rfl)
 clear S;rintro h ⟨S,t⟩;clear t;simp only [LC,ah,lay,zt,zu,Nat.reduceAdd]at S
 simp only [BS,LB,Nat.reduceLT,Nat.reduceEqDiff,Fo]
 refine aH (aC S (i:=1) rfl ?_ ?_ ?_ ono) ?_
 . exact(by simp only [Fo])
 . exact(by exact jV)
 . exact zp (lbt rfl)
 clear S;rintro h ⟨S,t⟩;clear t;simp only [LC,ah,lay,zt,zu,Nat.reduceAdd]at S
 simp only [BS,LB,ae,Nat.reduceLT,Nat.reduceEqDiff]
 have e1:aV [Value.int .i64 0] ((d.nodes:Int)).toNat=labC d.nodes zS.L:=by rw [nI];rfl
 have e2:aV [Value.bool false] ((d.nodes:Int)).toNat=clC d.nodes zS.O:=by
  rw [nI];unfold clC zS
  exact List.map_congr_left fun v _=>by simp
 have e3:zD d.nodes (Value.int .i64 (-1))=byC d.nodes zS.P:=by
  show _=(zG d.nodes).map fun _=>Value.int .i64 (-1)
  rw [List.map_const',Xd]
 rw [e1,e2,e3]at S
 have ap:=S.apart
 have C:=fun {c} a=>S.key_own (b:=c) a
 have n0:=m.fr.n
 have R: ∀c∈keys (srL br z w A d.nodes (ptrTo u) (ptrTo I) (.func (.func 215) #[] #[ptrTo f]) (.func (.func 216) #[] #[ptrTo f]) (.slice none 0 0) zS) (srG (.slice none 0 0) zS),h_H.n<=c:=fun c a=>by
  have:c=w\/c=br\/c=A\/c=z:=by simp [srL,srG,keys,c8]at a;omega
  rcases C (c:=c) (by simp [keys];omega)with h|h
  . exact h
  . simp [keys]at h
 refine⟨br,f,j,_,rfl,y,(m.rebase S).gr,W,X,⟨z,w,A,I,F,.slice none 0 0,rfl,fun q j=>?_,.inl ⟨rfl,rfl⟩,?_,H.mo S.fr (fun c _ h=>by simp [keys]at h),fun c a D=>?_⟩,fun c a=>?_⟩
 . simp only [srL,Xm,Xf,or_false]at j
   rcases j with rfl|rfl|rfl|rfl
   . exact S.row m1
   . exact S.row m3
   . exact S.row m0
   . exact S.row m2
 . simp [srL,srG,keys,c8]at ap⊢
   exact⟨by omega,by omega,by omega,.nil⟩
 . have:=lF c a
   have:=R c D
   omega
 . rcases List.mem_append.1 a with a|a
   . exact zk n0 (R c a)
   . exact zk k0 (Z c a)
theorem fitsB_ok{h0:Hp}(d:h0.t.Sized h0.n){v:Value}{xs:List Bool}(b:ax h0 1 encB v xs){n:Nat}(e:xs=[]\/xs.length=n):aW zj 148 [v,.int .i64 n] h0 (.bool true):=by
 have S:=Si d
 by_cases a:(xs.length:Int)=0
 . refine ag (n:=14) (rs:=[.tmp 4]) rfl Tryz.e148 rfl rfl rfl (lbt rfl) ?_
   simp only [BS,LB,ae,Nat.reduceLT,Nat.reduceEqDiff,F05,b.lenq,a]
   exact S.gr
 . have c:(xs.length:Int)=(n:Int):=by
    rcases e with rfl|h
    . simp at a
    . omega
   rw [c]at a
   refine ag (n:=14) (rs:=[.tmp 4]) rfl Tryz.e148 rfl rfl rfl (lbt rfl) ?_
   simp only [BS,LB,ae,Nat.reduceLT,Nat.reduceEqDiff,F05,b.lenq,a,c]
   exact S.gr
theorem fitsI_ok{h0:Hp}(d:h0.t.Sized h0.n){v:Value}{xs:List Int}(b:ax h0 1 (encI .i64) v xs){n:Nat}(e:xs=[]\/xs.length=n):aW zj 150 [v,.int .i64 n] h0 (.bool true):=by
 have S:=Si d
 by_cases a:(xs.length:Int)=0
 . refine ag (n:=14) (rs:=[.tmp 4]) rfl Tryz.e150 rfl rfl rfl (lbt rfl) ?_
   simp only [BS,LB,ae,Nat.reduceLT,Nat.reduceEqDiff,F06,b.lenq,a]
   exact S.gr
 . have c:(xs.length:Int)=(n:Int):=by
    rcases e with rfl|h
    . simp at a
    . omega
   rw [c]at a
   refine ag (n:=14) (rs:=[.tmp 4]) rfl Tryz.e150 rfl rfl rfl (lbt rfl) ?_
   simp only [BS,LB,ae,Nat.reduceLT,Nat.reduceEqDiff,F06,b.lenq,a,c]
   exact S.gr
theorem sO{h0:Hp}(d:h0.t.Sized h0.n){p:Value}{a:Gra}{e:Nat}(c:cE h0 e p a):aW zj 149 [p] h0 (.int .i64 a.arcs.length):=by
 have S:=Si d
 obtain⟨b,h,i,j,k,l,rfl,r,f,_⟩:=c.ex
 have g:=r.load1 (o:=3) rfl
 refine ag (n:=11) (rs:=[.tmp 2]) rfl Tryz.e149 rfl rfl rfl (lbt rfl) ?_
 simp only [BS,LB,ae,Nat.reduceLT,Nat.reduceEqDiff,F0E,g,f.A.lenq]
 exact S.gr
theorem s7{h0:Hp}(e:h0.t.Sized h0.n){a b:Nat}{d:Gra}{f:Nat}(c:cE h0 f (ptrTo a) d)(l:h0.load b 0 1=some [ptrTo a]){v:Nat}(i:v<d.nodes):aW zj 147 [.int .i64 (v:Nat),ptrTo b] h0 (.bool true):=by
 have S:=Si e
 have j:(0:Int)<=(v:Int):=by omega
 refine ag (n:=12) (rs:=[.tmp 3]) rfl Tryz.e147 rfl rfl rfl (lbt rfl) ?_
 simp only [BS,LB,Nat.reduceLT,Nat.reduceEqDiff,F0F,l,j]
 refine ar (dN S.ok (c.gr S.gr)) ?_;intro h g;replace S:=S.call g;clear g
 simp only [BS,LB,ae,Nat.reduceLT,Nat.reduceEqDiff,aI,i]
 exact S.gr
theorem zg{h0:Hp}(ok:h0.t.Sized h0.n){t:Gra}(u:Good t){nb V:Nat}(w:cE h0 nb (ptrTo V) t){s to:Nat}(W:s<t.nodes)(y:to<t.nodes){z vPi:Value}{als:List Bool}{f:List Int}(K:ax h0 1 encB z als)(A:als=[]\/als.length=t.arcs.length)(L:ax h0 1 (encI .i64) vPi f)(C:f=[]\/f.length=t.nodes):
 Ret zj 72 [ptrTo V,.agg ⟨[.int .i64 (s:Nat),.int .i64 (to:Nat),z,vPi]⟩] h0 fun r X=>Gr h0 X/\ ∃v D,r=.tuple #[v,.int .i64 0]/\FdAt X h0.n v D/\((s=to/\D=⟨0,[],[]⟩)\/(s≠to/\Ends t.arcs (alF als) (piF f) to (iv (piF f) s) D)):=by
 have S:=Si ok
 have fA:=K.fl
 have fP:=L.fl
 refine ag (n:=57) (rs:=[.cell 4 114,.tmp 5]) rfl Tryz.e72 rfl rfl rfl (lbt rfl) ?_
 simp only [BS,Nat.reduceLT]
 refine am (dp (by exact fO)) S ?_;clear S;intro h d S Y
 simp only [BS,Nat.reduceLT,Nat.reduceEqDiff,if_false]
 refine am (bE (by intro x e;cases e)) S ?_;clear S;intro h a S Z;simp only [ah]at S
 simp only [BS,F8]
 refine am aF S ?_;clear S;intro h M S aa
 simp only [BS,LB,Nat.reduceLT,Nat.reduceEqDiff,F8,S.ld (b:=d) (o:=0) m2 rfl]
 refine aE (aK rfl) (q:=0) (ps:=[(22,24),(14,16)]) (by kernel_rfl) ?_
 simp only [BS,LB,cls,Nat.reduceLT,Nat.reduceEqDiff,Nat.reduceAdd,Nat.reducePow,Nat.reduceDiv,Nat.reduceMod,Nat.reduceLeDiff,F8,S.ld (b:=d) (o:=0) m2 rfl,S.ld (b:=a) (o:=0) m1 rfl]
 have p1:=(S.row (b:=d) m2).lt S.ok
 have q1:=(S.row (b:=a) m1).lt S.ok
 refine dg (s7 S.ok (w.gr S.gr) (S.ld (b:=d) (o:=0) m2 rfl) W) ?_;intro h g;have N:=aG g p1;have v1:=aG g q1;replace S:=S.call g;clear g
 simp only [BS,LB,cls,Nat.reduceLT,Nat.reduceEqDiff,Nat.reduceAdd,Nat.reducePow,Nat.reduceDiv,Nat.reduceMod,Nat.reduceLeDiff,F8,S.ld (b:=d) (o:=0) m2 rfl,S.ld (b:=a) (o:=1) m1 rfl]
 have p2:=(S.row (b:=d) m2).lt S.ok
 have q2:=(S.row (b:=a) m1).lt S.ok
 refine dg (s7 S.ok (w.gr S.gr) (S.ld (b:=d) (o:=0) m2 rfl) y) ?_;intro h g;have u2:=aG g p2;have v2:=aG g q2;replace S:=S.call g;clear g
 simp only [BS,LB,cls,Nat.reduceLT,Nat.reduceEqDiff,Nat.reduceAdd,Nat.reducePow,Nat.reduceDiv,Nat.reduceMod,Nat.reduceLeDiff,F8,S.ld (b:=d) (o:=0) m2 rfl,S.ld (b:=a) (o:=2) m1 rfl]
 have J:=(S.row (b:=d) m2).lt S.ok
 have q3:=(S.row (b:=a) m1).lt S.ok
 refine dg (sO S.ok (w.gr S.gr)) ?_;intro h g;have u3:=aG g J;have v3:=aG g q3;replace S:=S.call g;clear g
 simp only [BS,LB,cls,Nat.reduceLT,Nat.reduceEqDiff,Nat.reduceAdd,Nat.reducePow,Nat.reduceDiv,Nat.reduceMod,Nat.reduceLeDiff]
 have p4:=(S.row (b:=d) m2).lt S.ok
 have q4:=(S.row (b:=a) m1).lt S.ok
 refine dg (fitsB_ok S.ok (K.gr S.gr) A) ?_;intro h g;have u4:=aG g p4;have v4:=aG g q4;replace S:=S.call g;clear g
 simp only [BS,LB,cls,Nat.reduceLT,Nat.reduceEqDiff,Nat.reduceAdd,Nat.reducePow,Nat.reduceDiv,Nat.reduceMod,Nat.reduceLeDiff,F8,S.ld (b:=d) (o:=0) m2 rfl,S.ld (b:=a) (o:=3) m1 rfl]
 have p5:=(S.row (b:=d) m2).lt S.ok
 have q5:=(S.row (b:=a) m1).lt S.ok
 refine dg (dN S.ok (w.gr S.gr)) ?_;intro h g;have u5:=aG g p5;have v5:=aG g q5;replace S:=S.call g;clear g
 simp only [BS,LB,cls,Nat.reduceLT,Nat.reduceEqDiff,Nat.reduceAdd,Nat.reducePow,Nat.reduceDiv,Nat.reduceMod,Nat.reduceLeDiff]
 have p6:=(S.row (b:=d) m2).lt S.ok
 have q6:=(S.row (b:=a) m1).lt S.ok
 refine dg (fitsI_ok S.ok (L.gr S.gr) C) ?_;intro h g;have u6:=aG g p6;have v6:=aG g q6;replace S:=S.call g;clear g
 simp only [BS,LB,cls,Nat.reduceLT,Nat.reduceEqDiff,Nat.reduceAdd,Nat.reducePow,Nat.reduceDiv,Nat.reduceMod,Nat.reduceLeDiff,F8]
 refine⟨by simp only [bH,bN,a8,bP,bz,ne_eq,not_false_eq_true,bZ,cv,bV,bG,cy,dl,aQ,Nat.reduceLT,Nat.reduceEqDiff,reduceIte,zn,ao,aX v3,aX v5],?_⟩
 clear p1 p2 J p4 p5 p6 q1 q2 q3 q4 q5 q6 N u2 u3 u4 u5 u6 v1 v2 v3 v4 v5 v6
 by_cases E:s=to
 . subst E
   simp only [BS,LB,Nat.reduceLT,Nat.reduceEqDiff,F8,S.ld (b:=a) (o:=0) m1 rfl,S.ld (b:=a) (o:=1) m1 rfl]
   refine aH (S.store (i:=0) rfl Tryz.t114.2.1 (by intro x e;cases e) rfl rfl (lbt rfl) ono) ?_
   clear S;rintro h3 ⟨S,mo⟩
   simp only [LC,ah,lay,zt,zu,Nat.reduceAdd]at S
   simp only [BS,ae]
   refine(dC (by decide) (by simp only [aQ,ao,Nat.reduceEqDiff,reduceIte];exact cR Tryz.t114.1 Tryz.t114.2.1 (S.lds (b:=M) (o:=0) (n:=3) m0 (lbt rfl)))).2 ?_
   refine(gw (by decide)).2 (dX.2 ?_)
   exact⟨S.gr,_,⟨0,[],[]⟩,rfl,⟨_,_,rfl,.inl ⟨rfl,rfl⟩,.inl ⟨rfl,rfl⟩,fun c j=>j.elim,fun c j=>j.elim⟩,.inl rfl⟩
 . have F: ¬((s:Int)=(to:Int)):=by omega
   simp only [BS,LB,Nat.reduceLT,Nat.reduceEqDiff,F8,F,S.ld (b:=a) (o:=0) m1 rfl,S.ld (b:=a) (o:=1) m1 rfl]
   refine aE (aK rfl) (q:=0) (ps:=[(2,6),(2,4)]) (by kernel_rfl) ?_
   simp only [BS,LB,cls,Nat.reduceLT,Nat.reduceEqDiff,Nat.reduceAdd,Nat.reducePow,Nat.reduceDiv,Nat.reduceMod,Nat.reduceLeDiff,F8,zI,zQ,z8,S.ld (b:=d) (o:=0) m2 rfl,S.lds (b:=a) (o:=0) (n:=4) m1 (lbt rfl)]
   have H:=w.gr S.gr
   have kS:=S.fr.n
   have J:=(S.row (b:=a) m1).lt S.ok
   refine cM (sstart_ok S.ok u H fA fP) ?_
   rintro r h5 ⟨br,ba,hq,B,rfl,l,O,l2,l3,R,hB⟩
   have N:=aG (l.trans O) J
   have Aq:=K.gr (S.gr.trans l)
   have Pq:=L.gr (S.gr.trans l)
   have P:=S.call l
   have ac:=(P.row (b:=M) m0).lt P.ok
   replace S:=S.call (l.trans O)
   simp only [BS,LB,cls,Nat.reduceLT,Nat.reduceEqDiff,Nat.reduceAdd,Nat.reducePow,Nat.reduceDiv,Nat.reduceMod,Nat.reduceLeDiff,F8,S.ld (b:=a) (o:=0) m1 rfl,S.ld (b:=a) (o:=1) m1 rfl]
   have kq:=l.n
   have Q:=H.gr l
   refine cM (srun_ok l.ok O u Q R hB (al_ok l2 Aq A) (pi_ok l3 Pq C) (fun v _=>piF_lo f v) W y) ?_
   rintro rv h6 ⟨g6,D,he,vA,vE,rfl,G1,G2,T,d2⟩
   replace S:=P.call g6
   have f1:Fl vA:=G1.fl
   have f2:Fl vE:=G2.fl
   simp only [BS,LB,cls,Nat.reduceLT,Nat.reduceEqDiff,Nat.reduceAdd,Nat.reducePow,Nat.reduceDiv,Nat.reduceMod,Nat.reduceLeDiff]
   refine cU (S.store (i:=0) rfl Tryz.t114.2.1 (by intro x e;cases e) rfl (by simp only [ah,zM,zP,f1.2.1,f2.2.1,zn];rfl) (lbt rfl) ono) ?_
   clear S;rintro h7 ⟨S,mo⟩
   simp only [LC,ah,lay,zt,zu,Nat.reduceAdd]at S
   simp only [BS,LB,cls,ae,Nat.reduceEqDiff,Nat.reduceAdd,Nat.reducePow,Nat.reduceDiv,Nat.reduceMod,Nat.reduceLeDiff]
   refine⟨by simp only [bH,bN,a8,bP,bz,ne_eq,not_false_eq_true,bZ,cv,bV,bG,cy,dl,aQ,Nat.reduceLT,Nat.reduceEqDiff,reduceIte,zn,ao,bS N],?_⟩
   refine(dC (by decide) (by simp only [aQ,ao,Nat.reduceEqDiff,reduceIte];exact cR Tryz.t114.1 Tryz.t114.2.1 (S.lds (b:=M) (o:=0) (n:=3) m0 (lbt rfl)))).2 ?_
   refine(gw (by decide)).2 (dX.2 ?_)
   have m: ∀{p:GL},dz h6 p->(∀c,av p.1 c->hq.n<=c)->dz h7 p:=fun {p} G j=>G.of_get fun c U=>mo.get c (G.lt g6.ok U) fun e=>by
    have:=j c (by
     rcases G with⟨I,_⟩|⟨b',n',I,_⟩
     . obtain⟨v,k,vs⟩:=p
       simp only []at I
       subst I
       cases U
     . obtain⟨v,k,vs⟩:=p
       simp only []at I
       subst I
       cases U
       rfl)
    omega
   exact⟨S.gr,_,D,rfl,⟨vA,vE,rfl,m G1 (fun c j=>(T c j).1),m G2 d2,fun c j=>⟨zk kS (zk kq (T c j).1),(T c j).2⟩,fun c j=>zk kS (zk kq (d2 c j))⟩,.inr ⟨E,he⟩⟩
def Tryz.FO:=aj t1<|aj t2<|aj t3<|aj t4<|aj Z10<|aj Z0<|aj t32<|aj t33<|aj t45<|aj t51<|aj t54<|aj t59<|aj Z4<|aj t189<|aj Z3<|aj t231<|aj t234<|aj r234<|t302
def sT(p:Value)(N a mk:Nat)(f t:Int):Int:=if isP p=true then iB N a mk f t else 1
theorem TabO.gr{E:Env}{h a:Hp}{b:Value}{c mk:Nat}{d e:FuncId}(T:TabO E h b c mk d e)(g:Gr h a):TabO E a b c mk d e:=⟨T.fl,fun x k=>T.marks x (g.trans k),fun x k=>T.nodes x (g.trans k)⟩
theorem firstC4{p:Value}{N b mk:Nat}{f t:Int}{d e g h:FuncId}{i j k l:Array Value}:lg [⟨d,i,isP p,1⟩,⟨e,j,decide (0<=f/\f<N),17⟩,⟨g,k,decide (0<=t/\t<N),18⟩,⟨h,l,decide (0<mk/\b=N),19⟩]=sT p N b mk f t:=by
 simp only [lg,sT,iB,decide_eq_true_eq]
 cases isP p with
 |false=>rfl
 | true=>
   simp only [if_true]
   by_cases a:0<=f/\f<(N:Int)
   . by_cases c:0<=t/\t<(N:Int)
     . simp only [a,c,not_true_eq_false,if_false,and_self,if_true]
     . simp only [a,c,not_true_eq_false,not_false_eq_true,if_false,and_self,if_true]
   . simp only [a,not_false_eq_true,if_false,if_true]
theorem xY{h0:Hp}(ok:h0.t.Sized h0.n){p K L:Value}{N A mk:Nat}{f t a:Int}(fq:Fl L)(k:(∃j l w,p=ptrTo j/\cE h0 w (ptrTo j) l/\N=l.nodes)\/p=.pointer none)(T:TabO zj h0 K A mk 81 112):
 aW zj 71 [p,K,.agg ⟨[L,.int .i64 f,.int .i64 t,.int .i64 a]⟩] h0 (.int .i64 (sT p N A mk f t)):=by
 have fp:Fl p:=by rcases k with⟨_,_,_,rfl,_⟩|rfl<;>exact fO
 have ft:=T.fl
 have S:=Si ok
 refine ag (n:=25) (rs:=[.tmp 6]) rfl Tryz.e71 rfl rfl rfl (lbt rfl) ?_
 simp only [BS,Nat.reduceLT]
 refine am (dp (by assumption)) S ?_;clear S;intro h m S M
 simp only [BS,Nat.reduceLT,Nat.reduceEqDiff,if_false]
 refine am (dp (by assumption)) S ?_;clear S;intro h O S P
 simp only [BS,Nat.reduceLT,Nat.reduceEqDiff,if_false]
 refine am (bE (by intro x e;cases e)) S ?_;clear S;intro h r S Q;simp only [ah]at S
 have R:=S.gr
 have B:=S.ok
 have r3:=S.ld (b:=m) (o:=0) m2 rfl
 have r4:=S.ld (b:=O) (o:=0) m1 rfl
 have C:=S.ld (b:=r) (o:=1) m0 rfl
 have D:=S.ld (b:=r) (o:=2) m0 rfl
 have U:=(S.row (b:=r) m0).lt S.ok
 clear S
 rename Hp=>hq
 have S:=Si B
 simp only [BS,LB,Nat.reduceLT,Nat.reduceEqDiff]
 refine aE (aK rfl) (q:=16384) (ps:=[(5,9)]) (by kernel_rfl) ?_
 simp only [BS,LB,cls,Nat.reduceLT,Nat.reduceEqDiff,Nat.reduceAdd,Nat.reducePow,Nat.reduceDiv,Nat.reduceMod,Nat.reduceLeDiff,FO,C]
 refine cM (node_ok S.ok) ?_
 rintro v1 h ⟨g,x1,rfl,E⟩
 have V:leaves _ _ r=true:=aG g U
 have k1:=g.n
 replace S:=S.call g
 simp only [BS,LB,cls,Nat.reduceLT,Nat.reduceEqDiff,Nat.reduceAdd,Nat.reducePow,Nat.reduceDiv,Nat.reduceMod,Nat.reduceLeDiff,FO,g.load D]
 clear g
 refine cM (node_ok S.ok) ?_
 rintro v2 h ⟨g,x2,rfl,l2⟩
 have W:leaves _ _ r=true:=aG g (zy U k1)
 replace S:=S.call g
 replace E:=g.load E
 simp only [BS,LB,cls,Nat.reduceLT,Nat.reduceEqDiff,Nat.reduceAdd,Nat.reducePow,Nat.reduceDiv,Nat.reduceMod,Nat.reduceLeDiff,FO]
 have y:=S.gr
 have F:=S.ok
 clear S g
 rename Hp=>hA
 have S:=Si F
 refine dw (bW (by exact Tryz.t302.1) (by exact Tryz.e234E) (by decide) (by rfl)) S ?_;clear S;intro h X S Y Z;simp only [LC,aV,bJ,ah,Nat.reduceMul,Nat.reduceAdd,zz,zF,zx,zJ]at S
 have s:=S.gr
 have G:=S.ok
 have d:=s.load (y.load r3)
 have H:=s.load (y.load r4)
 have I:=s.load E
 have J:=s.load l2
 have z:=(R.trans y).trans s
 simp only [BS,LB,cls,Nat.reduceLT,Nat.reduceEqDiff,Nat.reduceAdd,Nat.reducePow,Nat.reduceDiv,Nat.reduceMod,Nat.reduceLeDiff]
 refine dg (xR G (rs:=[⟨145,#[ptrTo m],isP p,1⟩,⟨143,#[ptrTo x1,ptrTo m],decide (0<=f/\f<N),17⟩,⟨143,#[ptrTo x2,ptrTo m],decide (0<=t/\t<N),18⟩,⟨146,#[ptrTo O,ptrTo m],decide (0<mk/\A=N),19⟩]) (.inr ⟨X,0,none,4,rfl,zU _,S.lds (b:=X) (o:=0) (n:=4*2) m0 (lbt rfl)⟩) (by simp) (fun i hi=>?_)) ?_
 . have aa:i<4:=hi
   rcases(by omega:i=0\/i=1\/i=2\/i=3)with rfl|rfl|rfl|rfl
   . intro _
     refine net2_ok ?_ d
     rcases k with⟨j,_,_,rfl,_⟩|rfl
     . exact .inl ⟨j,rfl⟩
     . exact .inr rfl
   . intro u
     have v:isP p=true:=u 0 (by omega)
     rcases k with⟨j,l,w,rfl,c,rfl⟩|rfl
     . exact vJ (c.gr z) I d
     . cases v
   . intro u
     have v:isP p=true:=u 0 (by omega)
     rcases k with⟨j,l,w,rfl,c,rfl⟩|rfl
     . exact vJ (c.gr z) J d
     . cases v
   . intro u
     have v:isP p=true:=u 0 (by omega)
     rcases k with⟨j,l,w,rfl,c,rfl⟩|rfl
     . exact tab3_ok (c.gr z) (T.gr z) H d
     . cases v
 . intro h g
   rw [firstC4]
   replace S:=S.call g
   simp only [BS,LB,cls,ae,Nat.reduceLT,Nat.reduceEqDiff,Nat.reduceAdd,Nat.reducePow,Nat.reduceDiv,Nat.reduceMod,Nat.reduceLeDiff]
   refine⟨by simp only [bH,bN,a8,bP,bz,ne_eq,not_false_eq_true,bZ,cv,bV,bG,cy,dl,aQ,Nat.reduceLT,Nat.reduceEqDiff,reduceIte,zn,ao,bS V,aX V,bS W,aX W],?_⟩
   exact(R.trans y).trans S.gr
def Tryz.F0G:=aj t1<|aj t2<|aj t3<|aj t4<|aj t24<|aj t33<|aj t51<|aj t59<|Z4
def Tryz.F0H:=aj t1<|aj t2<|aj t3<|aj t4<|aj t24<|aj t33<|aj t51<|aj t59<|Z4
theorem xn{h0:Hp}(b:h0.t.Sized h0.n):Ret zj 81 [.pointer none] h0 fun r a=>Gr h0 a/\ ∃l:List Int,ax a 1 (encI .i64) r l/\l.length=0:=by
 have S:=Si b
 refine ag (n:=10) (rs:=[.tmp 2]) rfl Tryz.e81 rfl rfl rfl (lbt rfl) ?_
 simp only [BS,LB,ae,Nat.reduceLT,Nat.reduceEqDiff,F0G]
 exact⟨S.gr,[],.inl ⟨rfl,rfl⟩,rfl⟩
theorem xz{h0:Hp}(a:h0.t.Sized h0.n):aW zj 112 [.pointer none] h0 (.int .i64 ((0:Nat):Int)):=by
 have S:=Si a
 refine ag (n:=9) (rs:=[.tmp 2]) rfl Tryz.e112 rfl rfl rfl (lbt rfl) ?_
 simp only [BS,LB,ae,Nat.reduceLT,Nat.reduceEqDiff,zq,F0H]
 exact S.gr
def TabQ(h:Hp)(b:Value)(a:Nat)(l:List Int)(R Q:Nat->List Int):Prop:=(∃m,TabAt h m b a l R Q/\(∀i,i<l.length->(R i).length=a)/\ ∀i,i<l.length->(Q i).length=a)\/(b=.pointer none/\a=0/\l=[])
theorem TabQ.gr{h c:Hp}{d:Value}{e:Nat}{l:List Int}{R Q:Nat->List Int}(t:TabQ h d e l R Q)(g:Gr h c):TabQ c d e l R Q:=t.imp (fun⟨m,a,b⟩=>⟨m,a.gr g,b⟩) (fun h=>h)
theorem TabQ.tabO{h:Hp}{d:Value}{e:Nat}{l:List Int}{R Q:Nat->List Int}(t:TabQ h d e l R Q)(f:l.length<1000):TabO zj h d e l.length 81 112:=by
 rcases t with⟨m,t,_,_⟩|⟨rfl,rfl,rfl⟩
 . refine⟨by obtain⟨b,_,_,_,rfl,_⟩:=t.ex;exact fO,fun x k=>(kX k.ok (t.gr k) f).mono fun r g ⟨a,b,c⟩=>⟨a,l,b,rfl⟩,fun x k=>nG k.ok (t.gr k)⟩
 . exact⟨fO,fun x k=>xn k.ok,fun x k=>xz k.ok⟩
theorem yr{N a mk:Nat}{f t:Int}(h:iB N a mk f t=0):(0<=f/\f<N)/\(0<=t/\t<N)/\0<mk/\a=N:=by
 unfold iB at h
 split at h
 . cases h
 . split at h
   . cases h
   . split at h
     . rename_i c d b;exact⟨by omega,by omega,b⟩
     . cases h
def ansV(c:Int)(d:Int)(a b:Value):Value:=.agg ⟨[.int .i64 c,.int .i64 d,a,b]⟩
def Tryz.F9:=aj t1<|aj t2<|aj t3<|aj t4<|aj t5<|aj t6<|aj Z2<|aj Z5<|aj t24<|aj Z10<|aj Z0<|aj t32<|aj t33<|aj t45<|aj t47<|aj r47<|aj t48<|aj t51<|aj t59<|aj t74<|aj Z7<|aj t114<|aj r114<|aj Z15<|aj Z4<|aj t189<|Z3
theorem altRun_ok{h0:Hp}(ok:h0.t.Sized h0.n){U nb E:Nat}{j:Gra}(J:Good j)(hn:cE h0 nb (ptrTo U) j){V q0:Value}{l:List Int}{R Q:Nat->List Int}(T:TabQ h0 V E l R Q)(hl:l.length<=16)(fq:Fl q0){f t a:Int}:
 Ret zj 21 [ptrTo U,V,.agg ⟨[q0,.int .i64 f,.int .i64 t,.int .i64 a]⟩] h0 fun r W=>Gr h0 W/\ ∃c d X K vE,r=.tuple #[ansV c d X K,vE]/\
  (((iB j.nodes E l.length f t≠0\/f=t)/\c=iB j.nodes E l.length f t/\d=0/\X=.slice none 0 0/\K=.slice none 0 0/\vE=.slice none 0 0)\/
   (iB j.nodes E l.length f t=0/\f≠t/\ ∃(s w:Nat) (k:Fd),f=s/\t=w/\s<j.nodes/\w<j.nodes/\E=j.nodes/\
     Ends j.arcs (alF []) (piF ((zG j.nodes).map fun(v:Nat)=>mm j.nodes l.length R Q v w ((actL j.nodes l.length R Q f t a).map fun(x:Nat)=>(x:Int)))) w (iv (piF ((zG j.nodes).map fun(v:Nat)=>mm j.nodes l.length R Q v w ((actL j.nodes l.length R Q f t a).map fun(x:Nat)=>(x:Int)))) s) k/\
     ax W 4 fT vE k.ev/\
     ((FAR<=k.dist/\c=20/\d=0/\X=.slice none 0 0/\K=.slice none 0 0)\/
      (k.dist<FAR/\c=0/\d=(k.dist:Nat)/\ax W 1 cI X k.arcs/\ax W 1 cI K (actL j.nodes l.length R Q f t a))))):=by
 have S:=Si ok
 have ft:Fl V:=(T.tabO (by omega)).fl
 refine ag (n:=64) (rs:=[.cell 6 47,.tmp 7]) rfl Tryz.e21 rfl rfl rfl (lbt rfl) ?_
 simp only [BS,Nat.reduceLT]
 refine am (bE (by intro x e;cases e)) S ?_;clear S;intro h C S a1;simp only [ah]at S
 simp only [BS,F9]
 refine am aF S ?_;clear S;intro h F S a2
 simp only [BS,LB,Nat.reduceLT,Nat.reduceEqDiff,F9,zI,zQ,z8,S.lds (b:=C) (o:=0) (n:=4) m1 (lbt rfl)]
 refine ar (xY S.ok fq (.inl ⟨U,j,nb,rfl,hn.gr S.gr,rfl⟩) ((T.gr S.gr).tabO (by omega)) (a:=a) (f:=f) (t:=t)) ?_
 intro h g
 have eW:sT (.pointer (some ⟨U,0,none⟩)) j.nodes E l.length f t=iB j.nodes E l.length f t:=rfl
 rw [eW]
 obtain⟨c,p⟩: ∃c,iB j.nodes E l.length f t=c:=⟨_,rfl⟩
 rw [p]
 replace S:=S.call g;clear g
 by_cases c0:c=0
 . subst c0
   by_cases z:f=t
   . subst z
     simp only [BS,LB,Nat.reduceLT,Nat.reduceEqDiff,Nat.reduceAdd,F9,S.ld (b:=C) (o:=1) m1 rfl,S.ld (b:=C) (o:=2) m1 rfl]
     refine aH (S.store (i:=0) rfl Tryz.t47.2.1 (by intro x e;cases e) rfl rfl (lbt rfl) ono) ?_
     clear S;rintro Y ⟨S,Z⟩
     simp only [LC,ah,lay,zt,zu,Nat.reduceAdd]at S
     simp only [BS,ae]
     refine(dC (by decide) (by simp only [aQ,ao,Nat.reduceEqDiff,reduceIte];exact cR Tryz.t47.1 Tryz.t47.2.1 (S.lds (b:=F) (o:=0) (n:=4) m0 (lbt rfl)))).2 ?_
     refine(gw (by decide)).2 (dX.2 ?_)
     exact⟨S.gr,_,_,_,_,_,rfl,.inl ⟨.inr trivial,rfl,rfl,rfl,rfl,rfl⟩⟩
   . obtain⟨aa,ac,ad,af⟩:=yr p
     obtain⟨s,rfl⟩:=zL aa.1
     obtain⟨w,rfl⟩:=zL ac.1
     have hs:s<j.nodes:=by omega
     have hw:w<j.nodes:=by omega
     have L:s≠w:=fun e=>z (by rw [e])
     subst af
     obtain⟨m,t,lR,lQ⟩: ∃m,TabAt h0 m V j.nodes l R Q/\(∀i,i<l.length->(R i).length=j.nodes)/\ ∀i,i<l.length->(Q i).length=j.nodes:=by
      rcases T with h|⟨_,_,rfl⟩
      . exact h
      . simp at ad
     simp only [BS,LB,Nat.reduceLT,Nat.reduceEqDiff,F9,z,S.ld (b:=C) (o:=1) m1 rfl,S.ld (b:=C) (o:=2) m1 rfl,S.ld (b:=C) (o:=3) m1 rfl]
     have k6:=(S.row (b:=F) m0).lt S.ok
     refine step_ret (yz S.ok (t.gr S.gr) lR lQ hl) ?_
     rintro K h ⟨g,sB,nB⟩
     replace S:=S.call g;clear g
     have la:(actL j.nodes l.length R Q s w a).length<=16:=by unfold actL;rw [zH];omega
     have R5:=S.row (b:=C) m1
     have R6:=S.row (b:=F) m0
     have S0:=S
     have gV:=S.gr
     have u:=S.ok
     have ai:=R5.load1 (o:=1) rfl
     have ak:=R5.load1 (o:=2) rfl
     have p5:=R5.lt u
     have f1:=J.n2
     simp only [BS,LB,Nat.reduceLT,Nat.reduceEqDiff]
     clear S
     have S:=Si u
     rename Hp=>hV
     refine aE (nf (ord:=[15,0,1,2,3,4,5,6,7,8,9,10,11,12,13,14,16,17]) rfl rfl (by simp only [dv,reix,dT,List.getElem?_cons_zero,List.getElem?_cons_succ,List.map_toArray,z9,Xn,Nat.reduceBEq,cond_true,cond_false];exact rfl)) (q:=1) (ps:=[(0,12),(5,10),(3,10),(0,10)]) (by kernel_rfl) ?_
     simp only [BS,LB,cls,Nat.reducePow,Nat.reduceDiv,Nat.reduceMod,Nat.reduceLeDiff,F9]
     refine dw aF S ?_;clear S;intro h y S al H
     have M:=S.fr.n
     have gB:=S.gr
     have A:=S.row (b:=y) m0
     have N:=A.lt S.ok
     simp only [BS,LB,cls,Nat.reduceLT,Nat.reduceEqDiff,Nat.reduceAdd,Nat.reducePow,Nat.reduceDiv,Nat.reduceMod,Nat.reduceLeDiff,F9,gB.load ai,gB.load ak]
     refine cM (bPi_ok S.ok ((t.gr gV).gr gB) lR lQ (by omega) (by omega) (sl_nat (sB.gr gB)) (by rw [zR];omega) hw) ?_
     rintro vP h ⟨g,sP,nP⟩
     have e1:leaves _ _ C=true:=aG g (zy p5 M)
     have e2:leaves _ _ y=true:=aG g N
     have kq:=g.n
     replace S:=S.call g;clear g
     simp only [BS,LB,cls,Nat.reduceLT,Nat.reduceEqDiff,Nat.reduceAdd,Nat.reducePow,Nat.reduceDiv,Nat.reduceMod,Nat.reduceLeDiff,F9,sP.fl]
     refine cM (zg S.ok J ((hn.gr gV).gr S.gr) hs hw (als:=[]) (.inl ⟨rfl,rfl⟩) (.inl rfl) sP (.inr (by simp))) ?_
     rintro r h ⟨g,v,k,rfl,⟨xA,O,rfl,G1,G2,d1,d2⟩,he⟩
     have e3:leaves _ _ C=true:=aG g (zy p5 (zk M kq))
     have e4:leaves _ _ y=true:=aG g (zy N kq)
     have y1:Fl xA:=G1.fl
     have y2:Fl O:=G2.fl
     replace S:=S.call g
     simp only [BS,LB,cls,Nat.reduceLT,Nat.reduceEqDiff,Nat.reduceAdd,Nat.reducePow,Nat.reduceDiv,Nat.reduceMod,Nat.reduceLeDiff]
     refine cU (S.store (i:=0) rfl Tryz.t114.2.1 (by intro x e;cases e) rfl (by simp only [ah,zM,zP,y1.2.1,y2.2.1,zn];rfl) (lbt rfl) ono) ?_
     have a3:=S.ok
     have G: ∀c,av xA c\/av O c->c≠y:=fun c p e=>by
      have:=S.fr.n
      have h1:_<=c:=p.elim (fun h=>(d1 c h).1) (fun h=>d2 c h)
      omega
     clear S;rintro Y ⟨S,Z⟩
     simp only [LC,ah,lay,zt,zu,Nat.reduceAdd]at S
     simp only [BS,LB,cls,Nat.reduceLT,Nat.reduceEqDiff,Nat.reduceAdd,Nat.reducePow,Nat.reduceDiv,Nat.reduceMod,Nat.reduceLeDiff,F9]
     refine⟨by simp only [bH,bN,a8,bP,bz,ne_eq,not_false_eq_true,bZ,cv,bV,bG,cy,dl,aQ,Nat.reduceLT,Nat.reduceEqDiff,reduceIte,zn,ao,mj,bS e1,aX e1,bS e2,aX e2,bS e3,aX e3,bS e4,aX e4,<-H],?_⟩
     have A:=S.row (b:=y) m0
     have j0:=A.load1 (o:=0) rfl
     have j1:=A.load1 (o:=1) rfl
     have j2:=A.load1 (o:=2) rfl
     have D:F≠y:=fun e=>by have:=(S0.row (b:=F) m0).lt u;omega
     have an:ax Y 1 cI xA k.arcs:=(G1.sl rfl jo (by decide)).mo Z (fun c p e=>G c (.inl p) e)
     have P:ax Y 4 fT O k.ev:=(G2.sl rfl rJ (by decide)).mo Z (fun c p e=>G c (.inr p) e)
     have a0:=sB.gr S.gr
     have g3:=S.gr
     have S1:=S0.call S.gr
     clear S
     have S:=S1
     clear S1
     have a4:=nH
     by_cases hd:k.dist<FAR
     . have I: ¬(72057594037927936:Int)<=(k.dist:Int):=by omega
       simp only [BS,LB,Nat.reduceLT,Nat.reduceEqDiff,j0,I]
       refine aE (aK rfl) (q:=0) (ps:=[(7,8)]) (by kernel_rfl) ?_
       simp only [BS,LB,cls,Nat.reduceLT,Nat.reduceEqDiff,Nat.reduceAdd,Nat.reducePow,Nat.reduceDiv,Nat.reduceMod,Nat.reduceLeDiff,F9,j0,j1,j2,y1,sB.fl]
       refine cU (S.store (i:=0) rfl Tryz.t47.2.1 (by intro x e;cases e) rfl (by simp only [ah,zM,zP,y1.2.1,y2.2.1,sB.fl.2.1,zn];rfl) (lbt rfl) ono) ?_
       clear S;rintro h4 ⟨S,B⟩
       simp only [LC,ah,lay,zt,zu,Nat.reduceAdd]at S
       simp only [BS,LB,cls,ae,Nat.reduceLT,Nat.reduceEqDiff,Nat.reduceAdd,Nat.reducePow,Nat.reduceDiv,Nat.reduceMod,Nat.reduceLeDiff]
       refine⟨by simp only [bH,bN,a8,bP,bz,ne_eq,not_false_eq_true,bZ,cv,bV,bG,cy,dl,aQ,Nat.reduceLT,Nat.reduceEqDiff,reduceIte,zn,ao,mj,ez D,ez D.symm],?_⟩
       refine(dC (by decide) (by simp only [aQ,ao,Nat.reduceEqDiff,reduceIte];exact cR Tryz.t47.1 Tryz.t47.2.1 (S.lds (b:=F) (o:=0) (n:=4) m0 (lbt rfl)))).2 ?_
       refine(gw (by decide)).2 (dX.2 ?_)
       have zE:ax h4 4 fT O k.ev:=P.mo B (fun c p e=>by have:=d2 c p;have:=R6.lt u;omega)
       have zA:ax h4 1 cI xA k.arcs:=an.mo B (fun c p e=>by have:=(d1 c p).1;have:=R6.lt u;omega)
       have zB:=a0.mo B (fun c p e=>by have:=nB c p;omega)
       exact⟨S.gr,_,_,_,_,_,rfl,.inr ⟨z,s,w,k,rfl,rfl,hs,hw,he.resolve_left (fun h=>L h.1)|>.2,zE,.inr ⟨hd,rfl,rfl,zA,zB⟩⟩⟩
     . have I:(72057594037927936:Int)<=(k.dist:Int):=by omega
       simp only [BS,LB,Nat.reduceLT,Nat.reduceEqDiff,j0,I]
       refine aE (aK rfl) (q:=0) (ps:=[(2,3)]) (by kernel_rfl) ?_
       simp only [BS,LB,cls,Nat.reduceLT,Nat.reduceEqDiff,Nat.reduceAdd,Nat.reducePow,Nat.reduceDiv,Nat.reduceMod,Nat.reduceLeDiff,F9,j2]
       refine cU (S.store (i:=0) rfl Tryz.t47.2.1 (by intro x e;cases e) rfl (by simp only [ah,zM,zP,y1.2.1,y2.2.1,zn];rfl) (lbt rfl) ono) ?_
       clear S;rintro h4 ⟨S,B⟩
       simp only [LC,ah,lay,zt,zu,Nat.reduceAdd]at S
       simp only [BS,LB,cls,ae,Nat.reduceLT,Nat.reduceEqDiff,Nat.reduceAdd,Nat.reducePow,Nat.reduceDiv,Nat.reduceMod,Nat.reduceLeDiff]
       refine⟨by simp only [bH,bN,a8,bP,bz,ne_eq,not_false_eq_true,bZ,cv,bV,bG,cy,dl,aQ,Nat.reduceLT,Nat.reduceEqDiff,reduceIte,zn,ao,mj,ez D,ez D.symm],?_⟩
       refine(dC (by decide) (by simp only [aQ,ao,Nat.reduceEqDiff,reduceIte];exact cR Tryz.t47.1 Tryz.t47.2.1 (S.lds (b:=F) (o:=0) (n:=4) m0 (lbt rfl)))).2 ?_
       refine(gw (by decide)).2 (dX.2 ?_)
       have zE:ax h4 4 fT O k.ev:=P.mo B (fun c p e=>by have:=d2 c p;have:=R6.lt u;omega)
       exact⟨S.gr,_,_,_,_,_,rfl,.inr ⟨z,s,w,k,rfl,rfl,hs,hw,he.resolve_left (fun h=>L h.1)|>.2,zE,.inl ⟨by omega,rfl,rfl,rfl,rfl⟩⟩⟩
 . simp only [BS,LB,Nat.reduceLT,Nat.reduceEqDiff,Nat.reduceAdd,F9,c0]
   refine aH (S.store (i:=0) rfl Tryz.t47.2.1 (by intro x e;cases e) rfl rfl (lbt rfl) ono) ?_
   clear S;rintro Y ⟨S,Z⟩
   simp only [LC,ah,lay,zt,zu,Nat.reduceAdd]at S
   simp only [BS,ae]
   refine(dC (by decide) (by simp only [aQ,ao,Nat.reduceEqDiff,reduceIte];exact cR Tryz.t47.1 Tryz.t47.2.1 (S.lds (b:=F) (o:=0) (n:=4) m0 (lbt rfl)))).2 ?_
   refine(gw (by decide)).2 (dX.2 ?_)
   exact⟨S.gr,_,_,_,_,_,rfl,.inl ⟨.inl c0,rfl,rfl,rfl,rfl,rfl⟩⟩
end Go.Ab
end
section
namespace Go.Ab
def SlW(h:Hp)(kd:IntKind)(v:Value)(xs:List Int):Prop:=(v=.slice none 0 0/\xs=[])\/ ∃b o c,v=.slice (some ⟨b,o,none⟩) xs.length c/\xs.length<=c/\h.load b o (xs.length*1)=some (xs.flatMap (encI kd))
theorem SlW.sl{h:Hp}{kd:IntKind}{v:Value}{xs:List Int}(s:SlW h kd v xs):ax h 1 (encI kd) v xs:=s.imp (fun h=>h) (fun⟨b,o,c,a,d,e⟩=>⟨b,o,none,c,a,d,e⟩)
theorem SlW.low{E:Env}{h:Hp}{kd kd':IntKind}{t e:TypeId}{v:Value}{xs:List Int}(g:E.und t=some (.slice e))(j:E.sz e=some 1)(s:SlW h kd v xs){n:Nat}(a:n<=xs.length):
 ∃v',d8 E t v none (some (.int kd' (n:Int))) none=some v'/\ax h 1 (encI kd) v' (xs.take n)/\ ∀c,av v' c->av v c:=by
 have f: ∀n:Nat,fo (n:Int)=some n:=fun n=>rfl
 rcases s with⟨rfl,rfl⟩|⟨b,o,c,rfl,k,p⟩
 . have:n=0:=by simpa using a
   subst this
   refine⟨.slice none 0 0,?_,.inl ⟨rfl,rfl⟩,fun c d=>d⟩
   simp only [d8,g,dV,dU,f,j]
   rfl
 . refine⟨.slice (some ⟨b,o,none⟩) n c,?_,.inr ⟨b,o,none,c,?_,?_,?_⟩,fun c d=>d⟩
   . simp only [d8,g,dV,dU,f,Nat.ble_eq_true_of_le (zk a k),cond_true,j,Option.isSome_none,cond_false,Nat.sub_zero,dW,zz,Nat.add_zero]
     by_cases d:c=0
     . subst d;rfl
     . rw [show Nat.beq c 0=false by cases c with|zero=>exact absurd rfl d|succ c=>rfl];rfl
   . rw [zH,Xi a]
   . rw [zH,Xi a];exact zk a k
   . rw [zH,Xi a]
     have:=oS p (i:=0) (m:=n*1) (by omega)
     rw [Nat.add_zero,zI]at this
     rw [this]
     congr 1
     refine List.ext_getElem? fun i=>?_
     have e4: ∀l:List Int,l.flatMap (encI kd)=l.map fun x=>.int kd x:=fun l=>by
      rw [zC,z7,zC];rfl
     rw [e4,e4,zx,List.map_take]
end Go.Ab

end
section
namespace Go.Ab
open Go.Proofs
set_option maxRecDepth 10000
def Tryz.F07:=aj t1<|aj t2<|aj t3<|aj t5<|aj t22<|aj t24<|aj Z10<|aj t29<|aj Z0<|aj t36<|aj t38<|aj r38<|aj Z16<|Z1
def Tryz.Fc:=aj t1<|aj t2<|aj t3<|aj t4<|aj t5<|aj t6<|aj Z2<|aj Z5<|aj t9<|aj t10<|aj t11<|aj t12<|aj Z12<|aj t14<|aj r14<|aj t15<|aj t17<|aj t22<|aj t24<|aj Z10<|aj t33<|aj Z16<|Z14
theorem yW{h0:Hp}(z:h0.t.Sized h0.n){A C D:Value}{J K L M:Int}{B:List Int}(hB:SlW h0 .u8 A B)(Z:Fl C)(fN:Fl D):
 Ret zj 16 [.agg ⟨[A,C,.int .i64 J,.int .i64 K,.int .i64 L,.int .i64 M,D]⟩] h0 fun r E=>Gr h0 E/\ ∃d g j k,r=ik d g j k/\Good d/\cJ E g j k d/\ ∀c,(av g c\/av j c\/av k c)->h0.n<=c:=by
 have S:=Si z
 have N:min (B.length:Int) 60=((min B.length 60:Nat):Int):=by omega
 obtain⟨l,q,s,bB⟩:=hB.low (kd':=.i64) (n:=min B.length 60) Tryz.t22.1 Tryz.t5.2.2.1 (Nat.min_le_left _ _)
 have fB:=hB.sl.fl
 have t:=s.fl
 refine ag (n:=15) (rs:=[.cell 2 31]) rfl Tryz.e16 rfl rfl rfl (lbt rfl) ?_
 simp only [BS,Nat.reduceLT]
 refine am (bE (by intro x e;cases e)) S ?_;clear S;intro h O S F;simp only [ah]at S
 simp only [BS,F07]
 refine am aF S ?_;clear S;intro h G S H
 simp only [BS,LB,Nat.reduceLT,Nat.reduceEqDiff,Nat.reduceAdd,zW,zX,F07,hB.sl.lenq,N,q,t,S.ld (b:=O) (o:=0) m1 rfl]
 refine am (bE (by intro x e;cases e)) S ?_;clear S;intro h P S m;simp only [ah]at S
 have u:ax h 1 (encI .u8) l (B.take (min B.length 60)):=s.gr S.gr
 have Q: ¬av l P:=fun a=>by have:=s.lt z a;omega
 have w:(B.take (min B.length 60)).length<1000000:=by rw [zH];omega
 simp only [BS,LB,Nat.reduceLT,Nat.reduceEqDiff]
 have R:=S.fr.n
 have T:=S.apart
 simp only [keys,z9,Xn,List.filterMap_nil,Xh,List.nodup_cons,Xm,Xf,or_false,not_or]at T
 have U:=(S.row (b:=G) m1).lt S.ok
 refine step_ret (raw_ok S.ok (S.row m0) ⟨u,Q,w,by omega⟩) ?_
 rintro v h ⟨f,d,g,j,k,rfl,y,p,I⟩
 replace S:=S.drop1.step f (fun c a=>by subst a;exact .inr m) (fun c a e=>by simp [keys]at a;omega)
 have V:=p.X.fl
 have W:=p.Y.fl
 have X:=p.A.fl
 simp only [BS,LB,Nat.reduceLT,Nat.reduceEqDiff,ik]
 refine aH (S.store (i:=0) rfl Tryz.t31.2.1 (by intro x e;cases e) rfl (by simp only [ah,zM,zP,V.2.1,W.2.1,X.2.1,zn];rfl) (lbt rfl) ono) ?_
 clear S;rintro h ⟨S,Y⟩
 simp only [LC,ah,lay,zt,zu,Nat.reduceAdd]at S
 simp only [BS,ae]
 refine(dC (by decide) (by simp only [aQ,ao,Nat.reduceEqDiff,reduceIte];exact cR Tryz.t31.1 Tryz.t31.2.1 (S.lds (b:=G) (o:=0) (n:=4) m0 (lbt rfl)))).2 (dX.2 ?_)
 exact⟨S.gr,d,g,j,k,rfl,y,p.mo Y (fun c a e=>by have:=I c a;omega),fun c a=>zk R (I c a)⟩
theorem places_ok{h0:Hp}(ok:h0.t.Sized h0.n){vB vM vN:Value}{w0 w1 w2 w3:Int}{t:List Int}(fB:Fl vB)(C:SlW h0 .u8 vM t)(P: ∀x∈t,0<=x/\x<=255)(ad:t.length<=9223372036854775807)(fN:Fl vN){N:Nat}(n1:1<=N)(n2:N<=100):
 Ret zj 17 [.agg ⟨[vB,vM,.int .i64 w0,.int .i64 w1,.int .i64 w2,.int .i64 w3,vN]⟩,.int .i64 N] h0 fun r E=>Gr h0 E/\ ∃l,ax E 1 (encI .i64) r l/\kJ N l/\1<=l.length/\l.length<=6/\ ∀c,av r c->h0.n<=c:=by
 have S:=Si ok
 have fM:=C.sl.fl
 have nz:(N:Int)≠0:=by omega
 refine ag (n:=58) (rs:=[.tmp 4]) rfl Tryz.e17 rfl rfl rfl (lbt rfl) ?_
 simp only [BS,Nat.reduceLT]
 refine am (bE (by intro x e;cases e)) S ?_;clear S;intro h Q S aa;simp only [ah]at S
 have l1:=(S.row (b:=Q) m0).load1 (o:=1) rfl
 have M:=S.gr
 have R:=S.ok
 have kF:=S.fr.n
 clear S
 rename Hp=>hF
 have S:=Si R
 replace S:=S.nilG (k:=1)
 have T:=C.sl.gr M
 simp only [BS]
 refine bg (fun(i:Nat) f h=>i<=t.length/\ ∃(z:Value) (l:List Int),St NoM hF h [] [(z,1,ints l)]/\kJ N l/\l.length<=6/\f 1=.int .i64 N/\f 2=ptrTo Q/\f 5=z/\f 6=.int .i64 i) (fun i=>t.length-i) ?_ 0 _ _ ?_
 . clear S
   intro i ih f h ⟨hi,z,l,S,hl,hl6,s,p,a,g⟩
   have q:ax h 1 (encI .i64) z l:=(S.gown _ m0).1.sl rfl (fun _=>rfl) (by decide)
   have u:=S.old l1 (fun h=>h)
   by_cases U:i<t.length/\l.length<6
   . obtain ⟨hlt,ac⟩:=U
     have V:(l.length:Int)<6:=by omega
     have w:au .i64 ((i:Int)+1)=((i+1:Nat):Int):=by rw [wrap64]<;>omega
     obtain⟨c,o,F,G⟩:=(T.gr S.gr).ix (kd:=.i64) (cO .u8) hlt
     have hx:=P _ (zV hlt)
     obtain⟨x,ex⟩: ∃x:Nat,t[i]=x:=⟨t[i].toNat,by omega⟩
     rw [ex]at G hx
     have wc:au .i64 (x:Int)=(x:Int):=by rw [wrap64]<;>omega
     have tm:(x:Int).tmod (N:Int)=((x%N:Nat):Int):=by rw [Xa (by omega)];exact(Int.natCast_emod _ _).symm
     have H:x%N<N:=Nat.mod_lt _ (by omega)
     simp only [BS,LB,jK,ct,jR,Nat.reduceLT,Nat.reduceEqDiff,Fc,s,p,a,g,u,C.sl.lenq,q.lenq,aI,hlt,V,F,G,encI,wc,ou nz,tm]
     generalize x%N=v at H
     have gI:=S.gr
     have S0:=S
     refine bg (fun(k:Nat) f E=>k<=l.length/\E=h/\f 1=.int .i64 N/\f 2=ptrTo Q/\f 5=z/\f 6=.int .i64 i/\f 7=.int .i64 v/\f 8=.bool (decide ((v:Int)∈l.take k))/\f 9=.int .i64 k) (fun k=>l.length-k) ?_ 0 _ _ ?_
     . clear s p a g
       rintro k A f E ⟨hk,rfl,s,p,a,g,r7,r8,I⟩
       have W:au .i64 ((k:Int)+1)=((k+1:Nat):Int):=by rw [wrap64]<;>omega
       by_cases d:k<l.length
       . have X:l.take (k+1)=l.take k++[l[k]]:=zK d
         by_cases y:(v:Int)∈l.take k
         . rw [decide_eq_true y]at r8
           have B:(v:Int)∈l.take (k+1):=by rw [X];exact Xl _ y
           simp only [BS,LB,Nat.reduceLT,Nat.reduceEqDiff,Fc,a,r8,I,q.lenq,aI,d,W]
           exact A (k+1) _ _ (by omega) ⟨by omega,rfl,by simp [ab,s],by simp [ab,p,ao],by simp [ab,a],by simp [ab,g],by simp [ab,r7],by simp [ab,B],by simp [ab]⟩
         . rw [decide_eq_false y]at r8
           obtain⟨c1,o1,i1,y1⟩:=q.ix (kd:=.i64) (cO .i64) d
           by_cases O:l[k]=(v:Int)
           . have B:(v:Int)∈l.take (k+1):=by rw [X,O];exact zO _ (List.mem_singleton.2 rfl)
             simp only [BS,LB,Nat.reduceLT,Nat.reduceEqDiff,Fc,a,r7,r8,I,q.lenq,aI,d,W,i1,y1,encI,O]
             exact A (k+1) _ _ (by omega) ⟨by omega,rfl,by simp [ab,s],by simp [ab,p,ao],by simp [ab,a],by simp [ab,g],by simp [ab,r7],by simp [ab,B],by simp [ab]⟩
           . have Y: ¬(v:Int)∈l.take (k+1):=by
              rw [X]
              intro h
              rcases List.mem_append.1 h with h|h
              . exact y h
              . exact O (List.mem_singleton.1 h).symm
             simp only [BS,LB,Nat.reduceLT,Nat.reduceEqDiff,Fc,a,r7,r8,I,q.lenq,aI,d,W,i1,y1,encI,O]
             exact A (k+1) _ _ (by omega) ⟨by omega,rfl,by simp [ab,s],by simp [ab,p,ao],by simp [ab,a],by simp [ab,g],by simp [ab,r7],by simp [ab,Y],by simp [ab]⟩
       . have ek:k=l.length:=by omega
         subst ek
         rw [Xg]at r8
         by_cases y:(v:Int)∈l
         . rw [decide_eq_true y]at r8
           simp only [BS,LB,Nat.reduceLT,Nat.reduceEqDiff,Fc,a,g,r8,I,q.lenq,aI,d,w]
           exact ih (i+1) _ _ (by omega) ⟨by omega,z,l,S,hl,hl6,by simp [ab,s],by simp [ab,p,ao],by simp [ab,a],by simp [ab]⟩
         . rw [decide_eq_false y]at r8
           simp only [BS,LB,Nat.reduceLT,Nat.reduceEqDiff,Fc,a,g,r7,r8,I,q.lenq,aI,d]
           refine am (bW (by exact Tryz.t33.1) (by exact zT) (by decide) (by rfl)) S ?_;clear S;intro h D S J;simp only [LC,aV,bJ,ah,Nat.reduceMul,Nat.reduceAdd,zz,zF,zx,zJ]at S
           simp only [BS,LB,Nat.reduceLT,Nat.reduceEqDiff]
           have K:aL h 1 (.slice (some ⟨D,0,none⟩) 1 1)=some (1,ints [(v:Int)]):=by simp only [aL];rw [S.lds (b:=D) (o:=0) (n:=1*1) m0 (lbt rfl)];rfl
           replace S:=S.drop1
           refine dQ (S.grow (j:=0) (m:=1) (new:=ints [(v:Int)]) rfl Tryz.t33.1 zT (by decide) Tryz.t33.2.2.2.2.2 K rfl (by decide) rfl (by rw [cZ,cZ];simp;omega)) ?_
           clear S K;rintro h Z S
           simp only [LC]at S
           rw [<-mJ]at S
           simp only [BS,LB,Nat.reduceLT,Nat.reduceEqDiff,g,w]
           exact ih (i+1) _ _ (by omega) ⟨by omega,Z,l++[(v:Int)],S,hl.push (by omega) (by omega) (by omega) y,by simp;omega,by simp [ab,s],by simp [ab,p,ao],by simp [ab],by simp [ab]⟩
     . exact⟨zw _,rfl,by simp [ab,s],by simp [ab,p,ao],by simp [ab,a],by simp [ab,g],by simp [ab],by simp [ab],by simp [ab]⟩
   . have nR: ∀c,av z c->h0.n<=c:=fun c hb=>zk kF (((S.gblk m0 hb).1).elim (fun h=>h) (fun h=>h.elim))
     by_cases hlt:i<t.length
     . have V: ¬(l.length:Int)<6:=by omega
       have L: ¬(l.length:Int)=0:=by omega
       simp only [BS,LB,ae,Nat.reduceLT,Nat.reduceEqDiff,Fc,p,a,g,u,C.sl.lenq,q.lenq,aI,hlt,V,L]
       exact⟨M.trans S.gr,l,q,hl,by omega,hl6,nR⟩
     . by_cases hz:l.length=0
       . have L:(l.length:Int)=0:=by omega
         have eq:au .i64 ((N:Int).tdiv 2)=((N/2:Nat):Int):=by
          rw [Int.tdiv_eq_ediv_of_nonneg (by omega),wrap64]<;>omega
         simp only [BS,LB,Nat.reduceLT,Nat.reduceEqDiff,Fc,s,p,a,g,u,C.sl.lenq,q.lenq,aI,hlt,L,qv (n:=2) (by decide),eq]
         refine am (bW (by exact Tryz.t33.1) (by exact zT) (by decide) (by rfl)) S ?_;clear S;intro h D S J;simp only [LC,aV,bJ,ah,Nat.reduceMul,Nat.reduceAdd,zz,zF,zx,zJ]at S
         simp only [BS,LB,ae,Nat.reduceLT,Nat.reduceEqDiff]
         refine⟨M.trans S.gr,[((N/2:Nat):Int)],.inr ⟨D,0,none,1,rfl,zU _,S.lds (b:=D) (o:=0) (n:=1*1) m0 (lbt rfl)⟩,(vk N).push (by simp) (by omega) (by omega) (by simp),by simp,by simp,fun c hb=>?_⟩
         have e:c=D:=hb.symm
         omega
       . have L: ¬(l.length:Int)=0:=by omega
         simp only [BS,LB,ae,Nat.reduceLT,Nat.reduceEqDiff,Fc,p,a,g,u,C.sl.lenq,q.lenq,aI,hlt,L]
         exact⟨M.trans S.gr,l,q,hl,by omega,hl6,nR⟩
 . exact⟨zw _,_,[],S,vk _,zw _,by simp [ab,cC],by simp [ab,ao],by simp [ab],by simp [ab]⟩
def Tryz.Fq:=aj t1<|aj t2<|aj t3<|aj t4<|aj t5<|aj t22<|aj t24<|aj Z10<|aj Z16<|t142
theorem u64_nn(f:Int): ∃m:Nat,au .u64 f=(m:Int):=by
 unfold au
 cases f with
 | ofNat m=>
   simp only []
   cases h:Nat.blt m (hf .u64)<;>exact⟨_,rfl⟩
 |negSucc m=>exact⟨_,rfl⟩
theorem tU{N:Nat}(a:N<=100):au .u64 (N:Int)=(N:Int):=by
 have h:Nat.blt N (hf .u64)=true:=by
  rw [Nat.blt_eq]
  exact Nat.lt_of_le_of_lt a (by decide)
 show(bif Nat.blt N (hf .u64)then Int.ofNat N else _)=_
 rw [h];rfl
theorem u64_mod(f:Int){N:Nat}(d:1<=N)(a:N<=100): ∃s:Nat,s<N/\au .i64 ((au .u64 f).tmod (au .u64 (N:Int)))=(s:Int):=by
 obtain⟨m,b⟩:=u64_nn f
 have c:m%N<N:=Nat.mod_lt _ (by omega)
 refine⟨m%N,c,?_⟩
 rw [b,tU a,Xa (by omega),<-Int.natCast_emod,wrap64]<;>omega
theorem zb{h0:Hp}(z:h0.t.Sized h0.n){j k l:Value}{m f t a:Int}(J:Fl j)(K:Fl k)(L:Fl l){N:Nat}(p:1<=N)(d:N<=100):
 Ret zj 20 [.agg ⟨[j,k,.int .i64 m,.int .i64 f,.int .i64 t,.int .i64 a,l]⟩,.int .i64 N] h0 fun r A=>Gr h0 A/\ ∃(s u:Nat) (B:Int),s<N/\u<N/\r=.agg ⟨[.int .i64 m,.int .i64 s,.int .i64 u,.int .i64 B]⟩:=by
 have S:=Si z
 obtain⟨s,C,D⟩:=u64_mod f p d
 obtain⟨u,E,F⟩:=u64_mod t p d
 have G:au .u64 (N:Int)≠0:=by rw [tU d];omega
 refine ag (n:=29) (rs:=[.cell 4 28]) rfl Tryz.e20 rfl rfl rfl (lbt rfl) ?_
 simp only [BS,Nat.reduceLT]
 refine am (bE (by intro x e;cases e)) S ?_;clear S;intro h H S v;simp only [ah]at S
 simp only [BS,Fq]
 refine am aF S ?_;clear S;intro h I S w
 simp only [BS,LB,Nat.reduceLT,Nat.reduceEqDiff,Fq,zI,List.drop_succ_cons,zQ,z8,S.lds (b:=H) (o:=2) (n:=4) m1 (lbt rfl)]
 refine am aF S ?_;clear S;intro h c S y
 simp only [BS,LB,Nat.reduceLT,Nat.reduceEqDiff]
 refine aH (S.store (i:=0) rfl Tryz.t28.2.1 (by intro x e;cases e) rfl rfl (lbt rfl) ono) ?_
 clear S;rintro h ⟨S,g⟩;clear g
 simp only [LC,ah,lay,zt,zu,Nat.reduceAdd]at S
 simp only [BS]
 refine aE (aK rfl) (q:=0) (ps:=[]) (by kernel_rfl) ?_
 simp only [BS,LB,jK,ct,jR,cls,Nat.reduceLT,Nat.reduceEqDiff,Nat.reduceAdd,Nat.reducePow,Nat.reduceDiv,Nat.reduceMod,Nat.reduceLeDiff,Fq,ou G,D,F,S.ld (b:=c) (o:=1) m0 rfl,S.ld (b:=c) (o:=2) m0 rfl]
 refine cU (aC S (i:=0) rfl Tryz.t3.2.2.1 bI (zp (lbt rfl)) ono) ?_
 clear S;rintro h ⟨S,_⟩
 simp only [LC]at S
 simp only [BS,LB,cls,Nat.reduceLT,Nat.reduceEqDiff,Nat.reduceAdd,Nat.reducePow,Nat.reduceDiv,Nat.reduceMod,Nat.reduceLeDiff,Fq]
 refine cU (aC S (i:=0) rfl Tryz.t3.2.2.1 bI (zp (lbt rfl)) ono) ?_
 clear S;rintro h ⟨S,_⟩
 simp only [LC]at S
 simp only [BS,LB,Nat.reduceLT,Nat.reduceEqDiff,Nat.reduceAdd,Fq,ou (n:=9) (by decide),S.ld (b:=c) (o:=3) m0 rfl]
 refine aH (aC S (i:=0) rfl Tryz.t3.2.2.1 bI (zp (lbt rfl)) ono) ?_
 clear S;rintro h ⟨S,_⟩
 simp only [LC]at S
 simp only [BS,LB,Nat.reduceLT,Nat.reduceEqDiff,Fq,zI,zQ,z8,S.lds (b:=c) (o:=0) (n:=4) m0 (lbt rfl)]
 refine aH (S.store (i:=1) rfl Tryz.t28.2.1 (by intro x e;cases e) rfl rfl (lbt rfl) ono) ?_
 clear S;rintro h ⟨S,g⟩;clear g
 simp only [LC,ah,lay,zt,zu,Nat.reduceAdd]at S
 simp only [BS,ae]
 refine(dC (by decide) (by simp only [aQ,ao,Nat.reduceEqDiff,reduceIte];exact cR Tryz.t28.1 Tryz.t28.2.1 (S.lds (b:=I) (o:=0) (n:=4) m1 (lbt rfl)))).2 ?_
 refine dX.2 ?_
 exact⟨S.gr,s,u,_,C,E,rfl⟩
def Tryz.F0I:=aj t1<|aj t2<|aj t3<|aj t4<|t24
def Tryz.F08:=aj t1<|aj t2<|aj t3<|aj t4<|aj t5<|aj t6<|aj t24<|t59
def Sep(a:List Value):Prop:= ∀(i j:Nat) (w u:Value) (c:Nat),a[i]? =some w->a[j]? =some u->i≠j->av w c-> ¬av u c
theorem oX{α:Type}{l:List α}{x u:α}{j:Nat}(h:(l++[x])[j]? =some u):l[j]? =some u\/(j=l.length/\u=x):=by
 by_cases b:j<l.length
 . rw [Xe b]at h;exact .inl h
 . rw [List.getElem?_append_right (by omega)]at h
   have a:j-l.length=0:=by
    have:=(List.getElem?_eq_some_iff.1 h).1
    simp at this;omega
   rw [a]at h
   cases h
   exact .inr ⟨by omega,rfl⟩
theorem Sep.push{f:List Value}{y:Value}(s:Sep f)(h: ∀(j:Nat) u,f[j]? =some u-> ∀c,av u c-> ¬av y c):Sep (f++[y]):=by
 intro i j w u c a b g d e
 rcases oX a with a|⟨k,l⟩<;>rcases oX b with b|⟨m,e4⟩
 . exact s i j w u c a b g d e
 . rw [e4]at e;exact h i w a c d e
 . rw [l]at d;exact h j u b c e d
 . exact g (k.trans m.symm)
def WrI(h:Hp)(w:Value)(l:List Int):Prop:=ax h 1 (encI .i64) w l/\(l≠ []-> ∃b,w=.slice (some ⟨b,0,some 1⟩) l.length l.length/\Row h b (ints l) 1)
theorem WrI.mo{M:Nat->Prop}{h a:Hp}{w:Value}{l:List Int}(r:WrI h w l)(g:Mo M h a)(c: ∀b,av w b-> ¬M b):WrI a w l:=
 ⟨r.1.mo g c,fun d=>by obtain⟨b,e,k⟩:=r.2 d;exact⟨b,e,g.has (o:=.row _ 1) k (c b (by rw [e];rfl))⟩⟩
theorem WrI.gr{h a:Hp}{w:Value}{l:List Int}(r:WrI h w l)(g:Gr h a):WrI a w l:=r.mo (M:=NoM) g.fr (fun _ _ h=>h)
theorem xq{h0:Hp}(m:h0.t.Sized h0.n){v:Value}{xs:List Int}(p:ax h0 1 (encI .i64) v xs)(t:xs.length<1000000):Ret zj 105 [v] h0 fun r a=>Gr h0 a/\WrI a r xs/\ ∀c,av r c->h0.n<=c:=by
 have S:=Si m
 by_cases i:xs=[]
 . obtain⟨r,a,u,g,w,j⟩:=oD m p t
   exact⟨r,a,u,g,⟨w,fun h=>absurd i h⟩,j⟩
 rcases p with⟨rfl,rfl⟩|⟨b,o,s,c,rfl,x,y⟩
 . exact absurd rfl i
 . refine ag (n:=8) (rs:=[.tmp 2]) rfl Tryz.e105 rfl rfl rfl (lbt rfl) ?_
   simp only [BS,LB,Nat.reduceLT,Nat.reduceEqDiff,F0I]
   refine am (bW (by exact Tryz.t24.1) (by exact Xk) (by decide) (by rfl)) S ?_;clear S;intro h A S q;simp only [LC,aV,bJ,ah,Nat.reduceMul,Nat.reduceAdd,zz,zF,zx,zJ]at S
   simp only [BS,LB,Nat.reduceLT,Nat.reduceEqDiff]
   have k:ax h 1 (encI .i64) (.slice (some ⟨b,o,s⟩) xs.length c) xs:=.inr ⟨b,o,s,c,rfl,x,S.old y (fun h=>h)⟩
   refine dQ (S.clone (n:=0) (vs:=[]) Tryz.t24.1 Xk (by decide) Tryz.t24.2.2.2.2.2 k.src (aU (cO .i64) xs).symm rfl (by decide) (by rw [aU (cO .i64)];simp;omega) (S.row m0)) ?_
   rintro a v (⟨e,_⟩|⟨d,rfl,l⟩)
   . exact absurd (List.length_eq_zero_iff.1 e) i
   simp only [BS,LB,ae,Nat.reduceLT,Nat.reduceEqDiff]
   have f:Row a d (ints xs) 1:=l.row m0
   have z:h0.n<=d:=(l.own _ m0).1.elim (fun h=>h) (fun h=>h.elim)
   refine⟨l.gr,⟨.inr ⟨d,0,some 1,xs.length,rfl,zU _,?_⟩,fun _=>⟨d,rfl,f⟩⟩,fun c j=>?_⟩
   . rw [f.load (by rw [cZ];omega),zI,zx,<-cZ xs,Xg];rfl
   . obtain rfl:d=c:=j
     exact z
def LLD(h:Hp)(m k:Nat)(v:Value)(n:Nat)(R:Nat->List Int):Prop:=
 ∃a:List Value,ax h 1 encV v a/\a.length=n/\(∀c,av v c->m<=c/\c<k)/\(∀(i:Nat) w,a[i]? =some w->WrI h w (R i)/\ ∀c,av w c->m<=c/\c<k/\ ¬av v c)/\Sep a
theorem LLD.ll{h:Hp}{m k n:Nat}{v:Value}{R:Nat->List Int}(r:LLD h m k v n R):dM h m v n R:=by
 obtain⟨g,a,b,c,d,_⟩:=r
 exact⟨g,a,b,fun x e=>(c x e).1,fun i w f=>⟨(d i w f).1.1,fun x e=>((d i w f).2 x e).1⟩⟩
theorem LLD.mo{M:Nat->Prop}{h o:Hp}{m k n:Nat}{v:Value}{R:Nat->List Int}(r:LLD h m k v n R)(g:Mo M h o)(p: ∀b,M b->b<m\/k<=b):LLD o m k v n R:=by
 obtain⟨s,a,b,c,d,e⟩:=r
 exact⟨s,a.mo g (fun x f j=>by have:=c x f;have:=p x j;omega),b,c,fun i w l=>⟨(d i w l).1.mo g (fun x f j=>by have q:=(d i w l).2 x f;have t:=q.1;have u:=q.2.1;have:=p x j;omega),(d i w l).2⟩,e⟩
theorem LLD.gr{h a:Hp}{m k n:Nat}{v:Value}{R:Nat->List Int}(r:LLD h m k v n R)(g:Gr h a):LLD a m k v n R:=r.mo (M:=NoM) g.fr (fun _ h=>h.elim)
theorem LLD.form{h:Hp}{m k n:Nat}{v:Value}{R:Nat->List Int}(r:LLD h m k v n R): ∃a n c,v=.slice a n c:=by
 obtain⟨_,s,_⟩:=r
 rcases s with⟨rfl,_⟩|⟨b,o,s,c,rfl,_⟩<;>exact⟨_,_,_,rfl⟩
theorem mem_gkey{M:Nat->Prop}{h0 h:Hp}{v:Value}{a:List Value}{k:Nat}(S:St M h0 h [] [(v,k,a)]){c:Nat}(d:av v c):c∈keys [] [(v,k,a)]:=by
 have f:c8 (v,k,a)=some c:=by
  rcases(S.gown (v,k,a) (List.mem_singleton.2 rfl)).1 with⟨e,_⟩|⟨b,n,e,_⟩
  . rw [show v=_ from e]at d;exact d.elim
  . have g:v=.slice (some ⟨b,0,some k⟩) n n:=e
    rw [g]at d⊢
    exact congrArg some d
 exact List.mem_filterMap.2 ⟨_,List.mem_singleton.2 rfl,f⟩
theorem ur {h0:Hp} (Y:h0.t.Sized h0.n) {v:Value} {m n:Nat} {R:Nat->List Int} (N:dM h0 m v n R) (hn:n<1000) (Z: ∀i,i<n->(R i).length<1000000):
 Ret zj 70 [v] h0 fun r G=>Gr h0 G/\LLD G h0.n G.n r n R:=by
 have S:=Si Y
 refine ag (n:=18) (rs:=[.tmp 2]) rfl Tryz.e70 rfl rfl rfl (lbt rfl) ?_
 simp only [BS,LB,Nat.reduceLT,Nat.reduceEqDiff,F08,N.lenq]
 replace S:=S.nilG (k:=1)
 refine bg (fun(i:Nat) C h=>i<=n/\ ∃(f:List Value) (s:Value),St NoM h0 h [] [(s,1,f)]/\f.length=i/\(∀j w,f[j]? =some w->WrI h w (R j)/\ ∀c,av w c->h0.n<=c/\c∉keys [] [(s,1,f)])/\Sep f/\C 2=s/\C 5=v/\C 6=.int .i64 n/\C 7=.int .i64 i) (fun i=>n-i) ?_ 0 _ _ ?_
 . clear S
   intro i ih C h ⟨hi,f,s,S,t,hc,hd,r2,r5,r6,r7⟩
   have aa:Fl s:=by
    rcases(S.gown _ m0).1 with⟨e,_⟩|⟨_,_,e,_⟩
    . rw [show s=_ from e];exact bD
    . rw [show s=_ from e];exact bD
   by_cases hlt:i<n
   . obtain⟨x,⟨q,o,D,H⟩,O,_⟩:=(N.gr S.gr).row hlt
     have fx:=O.fl
     have w:au .i64 ((i:Int)+1)=((i+1:Nat):Int):=by rw [wrap64]<;>omega
     simp only [BS,LB,Nat.reduceLT,Nat.reduceEqDiff,F08,r2,r5,r6,r7,aI,hlt,D,H]
     have I:=S
     refine step_ret (xq S.ok O (Z i hlt)) ?_
     rintro y P ⟨g,J,K⟩
     have F:=S.call g
     obtain⟨z,A,B,rfl⟩:=J.1.form
     have fy:Fl (.slice z A B):=bD
     have l: ∀(j:Nat) u,(f++[.slice z A B])[j]? =some u->WrI P u (R j)/\ ∀c,av u c->h0.n<=c/\c∉keys [] [(s,1,f)]/\c<P.n:=fun j u d=>by
      rcases oX d with d|⟨rfl,rfl⟩
      . obtain⟨Q,T⟩:=hc j u d
        exact⟨Q.gr g,fun c a=>⟨(T c a).1,(T c a).2,(Q.gr g).1.lt F.ok a⟩⟩
      . rw [t]
        exact⟨J,fun c a=>⟨zk I.fr.n (K c a),fun L=>by have:=I.key_lt L;have:=K c a;omega,J.1.lt F.ok a⟩⟩
     have M:=hd.push (y:=.slice z A B) fun j u d c a hy=>by
      have:=(hc j u d).1.1.lt I.ok a
      have:=K c hy
      omega
     replace S:=F.base
     simp only [BS,LB,Nat.reduceLT,Nat.reduceEqDiff]
     refine am (bW (by exact Tryz.t59.1) (by exact Tryz.e24E) (by decide) (by rfl)) S ?_;clear S;intro h U S V;simp only [LC,aV,bJ,ah,Nat.reduceMul,Nat.reduceAdd,zz,zF,zx,zJ]at S
     simp only [BS,LB,Nat.reduceLT,Nat.reduceEqDiff]
     have E:aL h 1 (.slice (some ⟨U,0,none⟩) 1 1)=some (1,[.slice z A B]):=by simp only [aL];rw [S.lds (b:=U) (o:=0) (n:=1*1) m0 (lbt rfl)];rfl
     replace S:=S.drop1
     refine dQ (S.grow (j:=0) (m:=1) (new:=[.slice z A B]) rfl Tryz.t59.1 Tryz.e24E (by decide) Tryz.t59.2.2.2.2.2 E rfl (by decide) (by simp [fy.2.1]) (by simp;omega)) ?_
     clear S E;rintro h p S
     simp only [LC]at S
     have fv:Fl p:=by
      rcases(S.gown _ m0).1 with⟨e,_⟩|⟨_,_,e,_⟩
      . rw [show p=_ from e];exact bD
      . rw [show p=_ from e];exact bD
     simp only [BS,LB,Nat.reduceLT,Nat.reduceEqDiff,r7,w]
     refine ih (i+1) _ _ (by omega) ⟨by omega,f++[.slice z A B],p,F.rebase S,by simp [t],fun j u d=>⟨(l j u d).1.mo S.fr (fun c a=>((l j u d).2 c a).2.1),fun c a=>⟨((l j u d).2 c a).1,fun L=>?_⟩⟩,M,by simp [ab],by simp [ab,r5],by simp [ab,r6],by simp [ab]⟩
     rcases S.key_new c L with W|W
     . exact((l j u d).2 c a).2.1 W
     . have:=((l j u d).2 c a).2.2;omega
   . simp only [BS,LB,ae,Nat.reduceLT,Nat.reduceEqDiff,r2,r6,r7,aI,hlt]
     have X:=(S.gown _ m0).1.sl (pu f).symm oz (by decide)
     refine⟨S.gr,f,X,by omega,fun c a=>⟨((S.gblk m0 a).1).elim (fun h=>h) (fun h=>h.elim),X.lt S.ok a⟩,fun j u d=>⟨(hc j u d).1,fun c a=>⟨((hc j u d).2 c a).1,(hc j u d).1.1.lt S.ok a,fun hv=>((hc j u d).2 c a).2 ?_⟩⟩,hd⟩
     exact mem_gkey S hv
 . exact⟨zw _,[],_,S,rfl,fun j w t=>by simp at t,fun i j w u c t=>by simp at t,by simp [ab],by simp [ab,bu],by simp [ab],by simp [ab]⟩
def Tryz.F09:=aj t1<|aj t2<|aj t3<|aj t4<|aj t5<|aj t6<|aj Z2<|aj t24<|t137
def Tryz.F0J:=aj t1<|aj t2<|aj t3<|aj t4<|aj t24<|t137
def Tryz.F0a:=aj t1<|aj t2<|aj t3<|aj t4<|aj t5<|aj t6<|aj Z2<|aj t24<|aj t59<|t138
def Tryz.F0K:=aj t1<|aj t2<|aj t3<|aj t4<|aj t24<|aj t33<|aj t59<|t138
def Tryz.FA:=aj t1<|aj t2<|aj t3<|aj t4<|aj t5<|aj t24<|aj t33<|aj t51<|aj t59<|aj Z4<|aj t138<|t140
def gX(N:Nat)(l:List Int):Prop:=l.length=N/\ ∀x∈l,0<=x/\x<=72057594037927936
theorem mk11_ok{h0:Hp}(a:h0.t.Sized h0.n){x:Int}(d:0<=x/\x<=72057594037927936):aW zj 67 [.int .i64 x] h0 (.bool false):=by
 have S:=Si a
 have b: ¬x<0:=by omega
 have c: ¬72057594037927936<x:=by omega
 refine ag (n:=9) (rs:=[.tmp 2]) rfl Tryz.e67 rfl rfl rfl (lbt rfl) ?_
 simp only [BS,LB,ae,Nat.reduceLT,Nat.reduceEqDiff,b,c]
 exact S.gr
theorem mkIdx_ok{h0:Hp}(d:h0.t.Sized h0.n){v:Value}{l:List Int}(e:ax h0 1 (encI .i64) v l)(k:l.length<=1000000)(f: ∀x∈l,0<=x/\x<=72057594037927936):aW zj 140 [v,.func (.func 67) #[] #[]] h0 (.int .i64 (-1)):=by
 have S:=Si d
 refine ag (n:=19) (rs:=[.tmp 4]) rfl Tryz.e140 rfl rfl rfl (lbt rfl) ?_
 simp only [BS,LB,Nat.reduceLT,Nat.reduceEqDiff,F09,e.lenq]
 refine bg (fun(i:Nat) a h=>i<=l.length/\Gr h0 h/\a 0=v/\a 1=.func (.func 67) #[] #[]/\a 7=.int .i64 l.length/\a 8=.int .i64 i) (fun i=>l.length-i) ?_ 0 _ _ ?_
 . clear S
   intro i j a h ⟨hi,S,r0,r1,r7,r8⟩
   by_cases hlt:i<l.length
   . obtain⟨q,o,b,c⟩:=(e.gr S).ix (kd:=.i64) (cO .i64) hlt
     have w:au .i64 ((i:Int)+1)=((i+1:Nat):Int):=by rw [wrap64]<;>omega
     simp only [BS,LB,Nat.reduceLT,Nat.reduceEqDiff,F09,r0,r1,r7,r8,aI,hlt,b,c,encI]
     refine ar (mk11_ok S.ok (f _ (zV hlt))) ?_
     intro m g
     simp only [BS,LB,Nat.reduceLT,Nat.reduceEqDiff,r8,w]
     exact j (i+1) _ _ (by omega) ⟨by omega,S.trans g,by simp [ab,r0],by simp [ab,r1],by simp [ab,r7],by simp [ab]⟩
   . simp only [BS,LB,ae,Nat.reduceLT,Nat.reduceEqDiff,r7,r8,aI,hlt]
     exact S
 . exact⟨zw _,Gr.refl d,by simp [ab,bu],by simp [ab,bu,dF],by simp [ab],by simp [ab]⟩
theorem mkCf_ok{h0:Hp}(a:h0.t.Sized h0.n){v:Value}{l:List Int}(b:ax h0 1 (encI .i64) v l)(c:l.length<=1000000)(d: ∀x∈l,0<=x/\x<=72057594037927936):aW zj 66 [v,.func (.func 67) #[] #[]] h0 (.bool false):=by
 have S:=Si a
 refine ag (n:=9) (rs:=[.tmp 4]) rfl Tryz.e66 rfl rfl rfl (lbt rfl) ?_
 simp only [BS,LB,Nat.reduceLT,Nat.reduceEqDiff]
 refine ar (mkIdx_ok S.ok b c d) ?_;intro h g;replace S:=S.call g;clear g
 simp only [BS,LB,ae,Nat.reduceLT,Nat.reduceEqDiff,Int.reduceLE]
 exact S.gr
theorem mk1_ok{h0:Hp}(d:h0.t.Sized h0.n){b N:Nat}{v:Value}{l:List Int}(f:h0.load b 0 1=some [.int .i64 N])(a:ax h0 1 (encI .i64) v l)(c:gX N l)(i:N<=1000000):aW zj 65 [v,ptrTo b] h0 (.bool false):=by
 have S:=Si d
 have e:=c.1
 subst e
 refine ag (n:=12) (rs:=[.tmp 3]) rfl Tryz.e65 rfl rfl rfl (lbt rfl) ?_
 simp only [BS,LB,Nat.reduceLT,Nat.reduceEqDiff,F0J,a.lenq,f]
 refine ar (mkCf_ok S.ok a i c.2) ?_;intro h g;replace S:=S.call g;clear g
 simp only [BS,LB,ae,Nat.reduceLT,Nat.reduceEqDiff]
 exact S.gr
theorem mkIdxR_ok{h0:Hp}(e:h0.t.Sized h0.n){b N m n:Nat}{v:Value}{R:Nat->List Int}(k:h0.load b 0 1=some [.int .i64 N])(f:dM h0 m v n R)(s:n<=1000000)(l: ∀i,i<n->gX N (R i))(p:N<=1000000):aW zj 141 [v,.func (.func 65) #[] #[ptrTo b]] h0 (.int .i64 (-1)):=by
 have S:=Si e
 refine ag (n:=19) (rs:=[.tmp 4]) rfl Tryz.e141 rfl rfl rfl (lbt rfl) ?_
 simp only [BS,LB,Nat.reduceLT,Nat.reduceEqDiff,F0a,f.lenq]
 refine bg (fun(i:Nat) a h=>i<=n/\Gr h0 h/\a 0=v/\a 1=.func (.func 65) #[] #[ptrTo b]/\a 7=.int .i64 n/\a 8=.int .i64 i) (fun i=>n-i) ?_ 0 _ _ ?_
 . clear S
   intro i r a h ⟨hi,S,r0,r1,r7,r8⟩
   by_cases hlt:i<n
   . obtain⟨x,⟨q,o,c,d⟩,j,_⟩:=(f.gr S).row hlt
     have t:=j.fl
     have w:au .i64 ((i:Int)+1)=((i+1:Nat):Int):=by rw [wrap64]<;>omega
     simp only [BS,LB,Nat.reduceLT,Nat.reduceEqDiff,F0a,r0,r1,r7,r8,aI,hlt,c,d]
     refine ar (mk1_ok S.ok (S.load k) j (l i hlt) p) ?_
     intro u g
     simp only [BS,LB,Nat.reduceLT,Nat.reduceEqDiff,r8,w]
     exact r (i+1) _ _ (by omega) ⟨by omega,S.trans g,by simp [ab,r0],by simp [ab,r1,ao],by simp [ab,r7],by simp [ab]⟩
   . simp only [BS,LB,ae,Nat.reduceLT,Nat.reduceEqDiff,r7,r8,aI,hlt]
     exact S
 . exact⟨zw _,Gr.refl e,by simp [ab,bu],by simp [ab,bu,dF,ao],by simp [ab],by simp [ab]⟩
theorem mkCfR_ok{h0:Hp}(a:h0.t.Sized h0.n){b N m n:Nat}{v:Value}{R:Nat->List Int}(c:h0.load b 0 1=some [.int .i64 N])(d:dM h0 m v n R)(e:n<=1000000)(f: ∀i,i<n->gX N (R i))(j:N<=1000000):aW zj 69 [v,.func (.func 65) #[] #[ptrTo b]] h0 (.bool false):=by
 have S:=Si a
 refine ag (n:=9) (rs:=[.tmp 4]) rfl Tryz.e69 rfl rfl rfl (lbt rfl) ?_
 simp only [BS,LB,Nat.reduceLT,Nat.reduceEqDiff]
 refine ar (mkIdxR_ok S.ok c d e f j) ?_;intro h g;replace S:=S.call g;clear g
 simp only [BS,LB,ae,Nat.reduceLT,Nat.reduceEqDiff,Int.reduceLE]
 exact S.gr
theorem mk2_ok{h0:Hp}(j:h0.t.Sized h0.n){b b5 c N m n:Nat}{v d:Value}{l:List Int}{R:Nat->List Int}(k:h0.load b5 0 1=some [d])(o:h0.load c 0 1=some [.func (.func 65) #[] #[ptrTo b]])(e:ax h0 1 (encI .i64) d l)(p:h0.load b 0 1=some [.int .i64 N])(f:dM h0 m v n R)(q:n<=1000000)(a:l.length=n)(r: ∀i,i<n->gX N (R i))(s:N<=1000000):aW zj 68 [v,ptrTo b5,ptrTo c] h0 (.bool false):=by
 have S:=Si j
 have t:=e.fl
 subst a
 refine ag (n:=15) (rs:=[.tmp 4]) rfl Tryz.e68 rfl rfl rfl (lbt rfl) ?_
 simp only [BS,LB,Nat.reduceLT,Nat.reduceEqDiff,F0K,f.lenq,e.lenq,k,o]
 refine ar (mkCfR_ok S.ok p f q r s) ?_;intro h g;replace S:=S.call g;clear g
 simp only [BS,LB,ae,Nat.reduceLT,Nat.reduceEqDiff]
 exact S.gr
theorem make_ok{h0:Hp}(ok:h0.t.Sized h0.n){N mT mF:Nat}{P T U:Value}{l:List Int}{R Q:Nat->List Int}(s:ax h0 1 (encI .i64) P l)(V:dM h0 mT T l.length R)(W:dM h0 mF U l.length Q)(n1:1<=N)(hN:N<=100)(X:kJ N l)(Y: ∀i,i<l.length->gX N (R i))(Z: ∀i,i<l.length->gX N (Q i)):
 Ret zj 19 [.int .i64 N,P,T,U] h0 fun r h'=>Gr h0 h'/\TabAt h' h0.n r N l R Q:=by
 have S:=Si ok
 have aa:=X.1
 have k:l.length<1000:=by omega
 have c1: ¬(N:Int)<1:=by omega
 have cm:decide (kJ N l)=true:=decide_eq_true X
 have fM:=s.fl
 obtain⟨ma,mn,mc,rfl⟩:=s.form
 refine ag (n:=40) (rs:=[.tmp 8]) rfl Tryz.e19 rfl rfl rfl (lbt rfl) ?_
 simp only [BS,Nat.reduceLT]
 refine am (bE (by intro x e;cases e)) S ?_;clear S;intro h d S ac;simp only [ah]at S
 simp only [BS,Nat.reduceLT,Nat.reduceEqDiff,if_false]
 refine am (bE (by intro x e;cases e)) S ?_;clear S;intro h f S ad;simp only [ah]at S
 simp only [BS,LB,Nat.reduceLT,Nat.reduceEqDiff,FA]
 refine am aF S ?_;clear S;intro h A S af
 simp only [BS,LB,Nat.reduceLT,Nat.reduceEqDiff]
 refine aH (aC S (i:=0) rfl ?_ ?_ ?_ ono) ?_
 . exact(by simp only [FA])
 . exact(by exact jV)
 . exact zp (lbt rfl)
 clear S;rintro h ⟨S,mo⟩;clear mo;simp only [LC,ah,lay,zt,zu,Nat.reduceAdd]at S
 have m:=S.ld (b:=d) (o:=0) m2 rfl
 have p:=S.ld (b:=f) (o:=0) m1 rfl
 have y:=S.ld (b:=A) (o:=0) m0 rfl
 simp only [BS,LB,Nat.reduceLT,Nat.reduceEqDiff,FA,m,p,c1]
 refine ar (may_ok S.ok (s.gr S.gr) (by omega)) ?_;intro h g;replace S:=S.call g;clear g
 rw [cm]
 simp only [BS,LB,Nat.reduceLT,Nat.reduceEqDiff]
 have m:=S.ld (b:=d) (o:=0) m2 rfl
 have p:=S.ld (b:=f) (o:=0) m1 rfl
 have y:=S.ld (b:=A) (o:=0) m0 rfl
 refine ar (mk2_ok S.ok p y (s.gr S.gr) m (V.gr S.gr) (by omega) rfl Y (by omega)) ?_;intro h g;replace S:=S.call g;clear g
 simp only [BS,LB,Nat.reduceLT,Nat.reduceEqDiff]
 have m:=S.ld (b:=d) (o:=0) m2 rfl
 have p:=S.ld (b:=f) (o:=0) m1 rfl
 have y:=S.ld (b:=A) (o:=0) m0 rfl
 refine ar (mk2_ok S.ok p y (s.gr S.gr) m (W.gr S.gr) (by omega) rfl Z (by omega)) ?_;intro h g;replace S:=S.call g;clear g
 have m:=S.ld (b:=d) (o:=0) m2 rfl
 have p:=S.ld (b:=f) (o:=0) m1 rfl
 simp only [BS,LB,Nat.reduceLT,Nat.reduceEqDiff]
 refine aE (aK rfl) (q:=256) (ps:=[(0,6),(0,4),(0,2)]) (by kernel_rfl) ?_
 simp only [BS,LB,cls,Nat.reduceLT,Nat.reduceEqDiff,Nat.reduceAdd,Nat.reducePow,Nat.reduceDiv,Nat.reduceMod,Nat.reduceLeDiff,FA,m,p]
 refine cM (nE S.ok (cO .i64) (s.gr S.gr) (by omega)) ?_
 rintro v h ⟨g,a,nM⟩
 have e41:leaves _ _ d=true:=aG g ((S.row (b:=d) m2).lt S.ok)
 have B:leaves _ _ f=true:=aG g ((S.row (b:=f) m1).lt S.ok)
 have k1:=S.fr.n
 have C:=fun c (j:c∈keys _ _)=>S.key_lt j
 replace S:=S.call g;clear g
 obtain⟨va,vn,vc,rfl⟩:=a.form
 simp only [BS,LB,cls,Nat.reduceLT,Nat.reduceEqDiff,Nat.reduceAdd,Nat.reducePow,Nat.reduceDiv,Nat.reduceMod,Nat.reduceLeDiff]
 refine cM (ur S.ok (V.gr S.gr) k (fun i D=>by have:=(Y i D).1;omega)) ?_
 rintro v h ⟨g,z⟩
 have e42:leaves _ _ d=true:=aG g ((S.row (b:=d) m2).lt S.ok)
 have E:leaves _ _ f=true:=aG g ((S.row (b:=f) m1).lt S.ok)
 have k2:=S.fr.n
 have F:=fun c (j:c∈keys _ _)=>S.key_lt j
 replace S:=S.call g;replace a:=a.gr g;clear g
 obtain⟨ta,tn,tc,rfl⟩:=z.form
 simp only [BS,LB,cls,Nat.reduceLT,Nat.reduceEqDiff,Nat.reduceAdd,Nat.reducePow,Nat.reduceDiv,Nat.reduceMod,Nat.reduceLeDiff]
 refine cM (ur S.ok (W.gr S.gr) k (fun i D=>by have:=(Z i D).1;omega)) ?_
 rintro v h ⟨g,L2⟩
 have e43:leaves _ _ d=true:=aG g ((S.row (b:=d) m2).lt S.ok)
 have e53:leaves _ _ f=true:=aG g ((S.row (b:=f) m1).lt S.ok)
 have k3:=S.fr.n
 have G:=fun c (j:c∈keys _ _)=>S.key_lt j
 replace S:=S.call g;replace a:=a.gr g;replace z:=z.gr g;clear g
 obtain⟨fa,fn,fc,rfl⟩:=L2.form
 simp only [BS,LB,cls,Nat.reduceLT,Nat.reduceEqDiff,Nat.reduceAdd,Nat.reducePow,Nat.reduceDiv,Nat.reduceMod,Nat.reduceLeDiff,FA]
 have t:=S
 replace S:=S.base
 have q4:=(t.row (b:=d) m2).lt t.ok
 have q5:=(t.row (b:=f) m1).lt t.ok
 refine dw (bE (by intro x e;cases e)) S ?_;clear S;intro h b S ai H;simp only [ah]at S
 have I:d≠b:=by omega
 have J:f≠b:=by omega
 simp only [BS,LB,cls,ae,Nat.reduceLT,Nat.reduceEqDiff,Nat.reduceAdd,Nat.reducePow,Nat.reduceDiv,Nat.reduceMod,Nat.reduceLeDiff]
 refine⟨by simp only [bH,bN,a8,bP,bz,ne_eq,not_false_eq_true,bZ,cv,bV,bG,cy,dl,aQ,Nat.reduceLT,Nat.reduceEqDiff,reduceIte,zn,ao,aX e41,aX e42,aX e43,aX B,aX E,aX e53,ez I,ez J,<-H],?_⟩
 have K:=S.fr
 have u:=a.mo K (fun c j w=>by have:=nM c j;have:=C c w;omega)
 have L:=z.mo K (fun c w=>.inl (F c w))
 have M:=L2.mo K (fun c w=>.inl (G c w))
 have O:=S.row (b:=b) m0
 replace S:=t.rebase S
 exact⟨S.gr,⟨b,_,_,_,rfl,O,u,L.ll.low k2,M.ll.low k3,(S.own _ m0).1.elim (fun h=>h) (fun h=>h.elim),fun c j=>zk k1 (nM c j)⟩⟩
end Go.Ab
end

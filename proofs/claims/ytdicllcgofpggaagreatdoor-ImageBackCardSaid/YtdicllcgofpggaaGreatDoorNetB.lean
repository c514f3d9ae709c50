/- Nets, cells, flags: what the functions do (part 2). -/
import Derived.Test.YtdicllcgofpggaaGreatDoorNetA
open Go.Ab.Tryz
open Go.Ab.Tryz renaming abEnv->zB,e5E->XT,e3E->X2
open List renaming range->zM,sublist_cons_self->zO,length_append->Xa,mem_of_getElem?->Xc,drop_zero->Xd,take_succ_eq_append_getElem->Xf,flatMap_cons->Xh,length_take->Xj,take_succ_cons->Xl,flatMap_nil->Xm,flatMap_append->Xn,take_zero->Xo,append_nil->Xq,take_length->Xr,append_assoc->Xs,length_cons->Xv,set_cons_zero->Xw,take->Xx,drop->Xy,take_of_length_le->Xz,getElem?_eq_getElem->XC,length_nil->XI,getD_eq_getElem?_getD->XL,drop_succ_cons->XM,drop_drop->XN,drop_eq_nil_of_le->XP,getElem_mem->XQ,map_congr_left->XS,length_range->XV,drop_eq_getElem_cons->XW,sublist_append_right->XX,drop_left'->X3,flatMap_eq_foldl->X5,getElem?_append->X6,length->Yb
open Nat renaming lt_of_succ_le->Xb,zero_le->Xe,mul_one->Xi,zero_add->Xk,pow_le_pow_right->Xp,shiftRight_eq_div_pow->Xt,ble_eq_true_of_le->Xu,mul_le_mul_right->XA,zero_mul->XB,le_refl->XE,one_mul->XF,le_trans->XG,div_div_eq_div_mul->XJ,mod_eq_of_lt->XR,mul_comm->XY,beq_refl->XZ,eq_of_beq_eq_true->X4,mul_assoc->X7,add_comm->X8,sub_self->X9
open Int renaming cast_ofNat_Int->Xg,toNat_natCast->XO
open Option renaming map_some->XD,map_none->XH,isSome_none->Ya
open Bool renaming and_true->XK
open Prod renaming snd->XU
set_option maxHeartbeats 4000000
set_option linter.defProp false
set_option linter.unusedVariables false
set_option linter.unusedSimpArgs false
section
namespace Go.Ab
open Go.Proofs
set_option maxRecDepth 10000
def Tryz.Fy:=aj t1<|aj t2<|aj t3<|aj t4<|aj t5<|aj t6<|aj Z0<|aj Z2<|aj t9<|aj t10<|aj t11<|aj t12<|aj Z6<|aj t22<|aj t85<|aj t97<|aj Z13<|aj t242<|t243
def Tryz.Fz:=aj t1<|aj t2<|aj t3<|aj t4<|aj t5<|aj t6<|aj Z0<|aj Z2<|aj t9<|aj t10<|aj t11<|aj t12<|aj Z6<|aj t22<|aj t58<|aj t85<|aj t97<|aj Z13<|aj t180<|aj t242<|t243
def Tryz.FF:=aj t1<|aj t2<|aj t3<|aj t4<|aj t5<|aj t6<|aj Z0<|aj Z2<|aj t9<|aj t10<|aj t11<|aj t12<|aj Z6<|aj t22<|aj t85<|aj t97<|aj Z13<|aj t178<|aj t242<|t243
def Tryz.FA:=aj t1<|aj t2<|aj t3<|aj t4<|aj t5<|aj t6<|aj Z0<|aj Z2<|aj t9<|aj t10<|aj t11<|aj t12<|aj Z6<|aj t22<|aj t23<|aj t85<|aj t97<|aj Z13<|aj t242<|t243
def Tryz.F0l:=aj t1<|aj t4<|aj t5<|aj t9<|aj t22<|aj t97<|Z13
def Tryz.F14:=aj t1<|aj t2<|aj t3<|aj t4<|aj t5<|aj t9<|aj t22<|aj t97<|Z13
def Tryz.F15:=aj t1<|aj t5<|aj t22<|aj t97<|Z13
theorem St.bsl{M:Nat->Prop}{e h:Hp}{L:List (Nat×Ob)}{G:List GL}{a:Nat}{kd:IntKind}{xs:List Int}(S:St M e h ((a,.row (xs.flatMap (encI kd)) 1)::L) G):St M e h L G/\ay h 1 (encI kd) (.slice (some ⟨a,0,none⟩) xs.length xs.length) xs/\ ∀c,aq (.slice (some ⟨a,0,none⟩) xs.length xs.length) c->c∉keys L G:=by
 refine⟨S.drop1,.inr ⟨a,0,none,xs.length,rfl,XE _,?_⟩,fun c d f=>?_⟩
 . have:=S.lds (b:=a) (o:=0) (n:=xs.length*1) m0 (by rw [aI (aH kd)];omega)
   rw [Xd,Xz (by rw [aI (aH kd)];omega)]at this
   exact this
 . have d:a=c:=d
   subst d
   exact(List.nodup_cons.1 S.apart).1 f
theorem put8_ok{M:Nat->Prop}{H hq:Hp}{L:List (Nat×Ob)}{G:List GL}(S:St M H hq L G){i j e:Nat}{v f:Value}{l:Bs}{xs:List Int}{many:Nat}(y:L[i]? =some (e,.row [v] 1))(z:G[j]? =some (v,1,aY l))(I:ay hq 1 (encI .u8) f xs)
 (P: ∀c,aq f c->c∉keys L G) (A:many<=8) (hl:l.length+8*xs.length<=1000000):
 Ret zB 101 [ptrTo e,.int .i64 (many:Nat),f] hq fun r g=> ∃v',St M H g (L.set i (e,.row [v'] 1)) (G.set j (v',1,aY (l++xs.flatMap fun x=>aR many (u64 x)))):=by
 have Q:=S
 have ok:=S.ok
 replace S:=S.base
 refine ab (n:=42) (rs:=[]) rfl Tryz.e101 rfl rfl rfl (lbt rfl) ?_
 simp only [BS,LB,Nat.reduceLT,Nat.reduceEqDiff,Fy,I.lenq]
 refine az (fun(k:Nat) d g=>k<=xs.length/\ ∃v',St (· ∈keys L G) hq g (L.set i (e,.row [v'] 1)) (G.set j (v',1,aY (l++(xs.take k).flatMap fun x=>aR many (u64 x))))/\d 0=ptrTo e/\d 1=.int .i64 (many:Nat)/\d 13=f/\d 14=.int .i64 xs.length/\d 15=.int .i64 k) (fun k=>xs.length-k) ?_ 0 _ _ ?_
 . clear S
   intro k R d h1 ⟨hk,v',S,r0,r1,r13,r14,r15⟩
   have B:=I.mo S.fr P
   by_cases hlt:k<xs.length
   . obtain⟨c,o,p,C⟩:=B.ix (kd:=.i64) (aH .u8) hlt
     have w:am .i64 ((k:Int)+1)=((k+1:Nat):Int):=by rw [wrap64]<;>omega
     have T:xs.take (k+1)=xs.take k++[xs[k]]:=Xf hlt
     simp only [BS,LB,Nat.reduceLT,Nat.reduceEqDiff,Fy,r13,r14,r15,an,hlt,p,C,encI]
     refine ag av S ?_;clear S;intro h s S J
     have U:[Value.int .u8 0,.int .u8 0,.int .u8 0,.int .u8 0,.int .u8 0,.int .u8 0,.int .u8 0,.int .u8 0]=li (u64 xs[k]) 0:=rfl
     rw [U]at S
     simp only [BS,LB,ck,aF,cq,Nat.reduceLT,Nat.reduceEqDiff,Fy,wrap_u64]
     refine az (fun(a:Nat) d g=>a<=8/\St (· ∈keys L G) hq g ((s,.row (li (u64 xs[k]) a) 1)::L.set i (e,.row [v'] 1)) (G.set j (v',1,aY (l++(xs.take k).flatMap fun x=>aR many (u64 x))))/\d 0=ptrTo e/\d 1=.int .i64 (many:Nat)/\d 13=f/\d 14=.int .i64 xs.length/\d 15=.int .i64 k/\d 8=ptrTo s/\d 9=.int .u64 ((u64 xs[k]/256 ^a:Nat):Int)/\d 21=.int .i64 a) (fun a=>8-a) ?_ 0 _ _ ?_
     . clear S r0 r1 r13 r14 r15
       intro a D d K ⟨ha,S,r0,r1,r13,r14,r15,r8,r9,r21⟩
       have V:am .i64 ((a:Int)+1)=((a+1:Nat):Int):=by rw [wrap64]<;>omega
       by_cases t:a<8
       . have u:(a:Int)<8:=by omega
         have N:=wrapN (k:=.u8) rfl (u64 xs[k]/256 ^a)
         simp only [pw]at N
         have W:(u64 xs[k]/256 ^a)>>>8=u64 xs[k]/256 ^(a+1):=by rw [Xt,XJ];rfl
         simp only [BS,LB,ck,aF,cq,Nat.reduceLT,Nat.reduceEqDiff,Fy,r8,r9,r21,u,N,nG (n:=8) t,oE (k:=.u64) (by decide)]
         refine aw (ar S (i:=0) rfl Tryz.t5.2.2.1 cg (by rw [j9];exact t) ono) ?_
         clear S;rintro K ⟨S,_⟩
         simp only [LC,sg]at S
         simp only [BS,LB,Nat.reduceLT,Nat.reduceEqDiff,r9,r21,oE (k:=.u64) (by decide),W,V]
         exact D (a+1) _ _ (by omega) ⟨by omega,S,by simp [aa,r0],by simp [aa,r1],by simp [aa,r13],by simp [aa,r14],by simp [aa,r15],by simp [aa,r8,ac],by simp [aa],by simp [aa]⟩
       . have X:a=8:=by omega
         subst X
         have Y:=(S.row (b:=e) (.tail _ (Xc (dH y)))).load1 (o:=0) rfl
         have O:=S.lds (b:=s) (o:=0) (n:=many) m0 (by rw [j9];omega)
         rw [Xd,qv A]at O
         have E:aA K 1 (.slice (some ⟨s,0,none⟩) many 8)=some (many,aY (aR many (u64 xs[k]))):=by simp only [aA];rw [Xi,O]
         have F:=qQ (n:=8) (b:=s) (many:=many) (k:=.i64) Tryz.t242.1 Tryz.t5.2.2.1 A
         simp only [BS,LB,Nat.reduceLT,Nat.reduceEqDiff,Int.reduceLT,Xg,r15,r21]
         refine au (ax rfl) (q:=0) (ps:=[]) (by kernel_rfl) ?_
         simp only [BS,LB,cls,Nat.reduceLT,Nat.reduceEqDiff,Nat.reduceAdd,Nat.reducePow,Nat.reduceDiv,Nat.reduceMod,Nat.reduceLeDiff,XD,XH,Fy,r0,r1,r8,Y,F]
         refine jx (S.grow (j:=j) (m:=many) (new:=aY (aR many (u64 xs[k]))) (dH z) Tryz.t22.1 XT (by decide) Tryz.t22.2.2.2.2.2 E (by rw [eP,aJ,Xi]) (by decide) (ot _) (by
          have Z:(xs.take k).length=k:=by rw [Xj];omega
          have l2:many*k<=8*k:=XA _ A
          rw [eP,eP,aJ,Xa,dJ (fun x=>aJ many _),Z];omega)) ?_
         clear S;rintro h3 v2 S
         have fv:=(S.gown _ (Xc (dH (dH z)))).1.fl
         have tl:aY (l++(xs.take k).flatMap fun x=>aR many (u64 x))++aY (aR many (u64 xs[k]))=aY (l++(xs.take (k+1)).flatMap fun x=>aR many (u64 x)):=by
          rw [<-kX,T,Xn,Xs];simp
         rw [set_set,tl]at S
         simp only [BS,LB,cls,Nat.reduceLT,Nat.reduceEqDiff,Nat.reduceAdd,Nat.reducePow,Nat.reduceDiv,Nat.reduceMod,Nat.reduceLeDiff,Fy]
         refine d9 (ar S (i:=i+1) (dH y) Tryz.t22.2.2.1 fv (Xb (lbt rfl)) ono) ?_
         clear S;rintro h4 ⟨S,_⟩
         simp only [LC,set_set]at S
         simp only [BS,LB,Nat.reduceLT,Nat.reduceEqDiff,Nat.reduceAdd,r15,w]
         exact R (k+1) _ _ (by omega) ⟨by omega,v2,S.drop1,by simp [aa,r0],by simp [aa,r1],by simp [aa,r13],by simp [aa,r14],by simp [aa]⟩
     . exact⟨Xe _,S,by simp [aa,r0],by simp [aa,r1],by simp [aa,r13],by simp [aa,r14],by simp [aa,r15],by simp [aa,ac],by simp [aa],by simp [aa]⟩
   . have:k=xs.length:=by omega
     subst this
     rw [Xr]at S
     simp only [BS,LB,Nat.reduceLT,r14,r15,an,hlt]
     exact⟨v',Q.rebase S⟩
 . exact⟨Xe _,v,by rw [set_self y];simp only [Xo,Xm,Xq];rw [set_self z];exact S,by simp [aa,aG,ac],by simp [aa,aG,bK],by simp [aa,aG,bK],by simp [aa],by simp [aa]⟩
theorem put32_ok{M:Nat->Prop}{H hq:Hp}{L:List (Nat×Ob)}{G:List GL}(S:St M H hq L G){i j e:Nat}{v f:Value}{l:Bs}{xs:List Int}{many:Nat}(y:L[i]? =some (e,.row [v] 1))(z:G[j]? =some (v,1,aY l))(I:ay hq 1 (encI .u32) f xs)
 (P: ∀c,aq f c->c∉keys L G) (A:many<=8) (hl:l.length+8*xs.length<=1000000):
 Ret zB 103 [ptrTo e,.int .i64 (many:Nat),f] hq fun r g=> ∃v',St M H g (L.set i (e,.row [v'] 1)) (G.set j (v',1,aY (l++xs.flatMap fun x=>aR many (u64 x)))):=by
 have Q:=S
 have ok:=S.ok
 replace S:=S.base
 refine ab (n:=42) (rs:=[]) rfl Tryz.e103 rfl rfl rfl (lbt rfl) ?_
 simp only [BS,LB,Nat.reduceLT,Nat.reduceEqDiff,Fz,I.lenq]
 refine az (fun(k:Nat) d g=>k<=xs.length/\ ∃v',St (· ∈keys L G) hq g (L.set i (e,.row [v'] 1)) (G.set j (v',1,aY (l++(xs.take k).flatMap fun x=>aR many (u64 x))))/\d 0=ptrTo e/\d 1=.int .i64 (many:Nat)/\d 13=f/\d 14=.int .i64 xs.length/\d 15=.int .i64 k) (fun k=>xs.length-k) ?_ 0 _ _ ?_
 . clear S
   intro k R d h1 ⟨hk,v',S,r0,r1,r13,r14,r15⟩
   have B:=I.mo S.fr P
   by_cases hlt:k<xs.length
   . obtain⟨c,o,p,C⟩:=B.ix (kd:=.i64) (aH .u32) hlt
     have w:am .i64 ((k:Int)+1)=((k+1:Nat):Int):=by rw [wrap64]<;>omega
     have T:xs.take (k+1)=xs.take k++[xs[k]]:=Xf hlt
     simp only [BS,LB,Nat.reduceLT,Nat.reduceEqDiff,Fz,r13,r14,r15,an,hlt,p,C,encI]
     refine ag av S ?_;clear S;intro h s S J
     have U:[Value.int .u8 0,.int .u8 0,.int .u8 0,.int .u8 0,.int .u8 0,.int .u8 0,.int .u8 0,.int .u8 0]=li (u64 xs[k]) 0:=rfl
     rw [U]at S
     simp only [BS,LB,ck,aF,cq,Nat.reduceLT,Nat.reduceEqDiff,Fz,wrap_u64]
     refine az (fun(a:Nat) d g=>a<=8/\St (· ∈keys L G) hq g ((s,.row (li (u64 xs[k]) a) 1)::L.set i (e,.row [v'] 1)) (G.set j (v',1,aY (l++(xs.take k).flatMap fun x=>aR many (u64 x))))/\d 0=ptrTo e/\d 1=.int .i64 (many:Nat)/\d 13=f/\d 14=.int .i64 xs.length/\d 15=.int .i64 k/\d 8=ptrTo s/\d 9=.int .u64 ((u64 xs[k]/256 ^a:Nat):Int)/\d 21=.int .i64 a) (fun a=>8-a) ?_ 0 _ _ ?_
     . clear S r0 r1 r13 r14 r15
       intro a D d K ⟨ha,S,r0,r1,r13,r14,r15,r8,r9,r21⟩
       have V:am .i64 ((a:Int)+1)=((a+1:Nat):Int):=by rw [wrap64]<;>omega
       by_cases t:a<8
       . have u:(a:Int)<8:=by omega
         have N:=wrapN (k:=.u8) rfl (u64 xs[k]/256 ^a)
         simp only [pw]at N
         have W:(u64 xs[k]/256 ^a)>>>8=u64 xs[k]/256 ^(a+1):=by rw [Xt,XJ];rfl
         simp only [BS,LB,ck,aF,cq,Nat.reduceLT,Nat.reduceEqDiff,Fz,r8,r9,r21,u,N,nG (n:=8) t,oE (k:=.u64) (by decide)]
         refine aw (ar S (i:=0) rfl Tryz.t5.2.2.1 cg (by rw [j9];exact t) ono) ?_
         clear S;rintro K ⟨S,_⟩
         simp only [LC,sg]at S
         simp only [BS,LB,Nat.reduceLT,Nat.reduceEqDiff,r9,r21,oE (k:=.u64) (by decide),W,V]
         exact D (a+1) _ _ (by omega) ⟨by omega,S,by simp [aa,r0],by simp [aa,r1],by simp [aa,r13],by simp [aa,r14],by simp [aa,r15],by simp [aa,r8,ac],by simp [aa],by simp [aa]⟩
       . have X:a=8:=by omega
         subst X
         have Y:=(S.row (b:=e) (.tail _ (Xc (dH y)))).load1 (o:=0) rfl
         have O:=S.lds (b:=s) (o:=0) (n:=many) m0 (by rw [j9];omega)
         rw [Xd,qv A]at O
         have E:aA K 1 (.slice (some ⟨s,0,none⟩) many 8)=some (many,aY (aR many (u64 xs[k]))):=by simp only [aA];rw [Xi,O]
         have F:=qQ (n:=8) (b:=s) (many:=many) (k:=.i64) Tryz.t242.1 Tryz.t5.2.2.1 A
         simp only [BS,LB,Nat.reduceLT,Nat.reduceEqDiff,Int.reduceLT,Xg,r15,r21]
         refine au (ax rfl) (q:=0) (ps:=[]) (by kernel_rfl) ?_
         simp only [BS,LB,cls,Nat.reduceLT,Nat.reduceEqDiff,Nat.reduceAdd,Nat.reducePow,Nat.reduceDiv,Nat.reduceMod,Nat.reduceLeDiff,XD,XH,Fz,r0,r1,r8,Y,F]
         refine jx (S.grow (j:=j) (m:=many) (new:=aY (aR many (u64 xs[k]))) (dH z) Tryz.t22.1 XT (by decide) Tryz.t22.2.2.2.2.2 E (by rw [eP,aJ,Xi]) (by decide) (ot _) (by
          have Z:(xs.take k).length=k:=by rw [Xj];omega
          have l2:many*k<=8*k:=XA _ A
          rw [eP,eP,aJ,Xa,dJ (fun x=>aJ many _),Z];omega)) ?_
         clear S;rintro h3 v2 S
         have fv:=(S.gown _ (Xc (dH (dH z)))).1.fl
         have tl:aY (l++(xs.take k).flatMap fun x=>aR many (u64 x))++aY (aR many (u64 xs[k]))=aY (l++(xs.take (k+1)).flatMap fun x=>aR many (u64 x)):=by
          rw [<-kX,T,Xn,Xs];simp
         rw [set_set,tl]at S
         simp only [BS,LB,cls,Nat.reduceLT,Nat.reduceEqDiff,Nat.reduceAdd,Nat.reducePow,Nat.reduceDiv,Nat.reduceMod,Nat.reduceLeDiff,Fz]
         refine d9 (ar S (i:=i+1) (dH y) Tryz.t22.2.2.1 fv (Xb (lbt rfl)) ono) ?_
         clear S;rintro h4 ⟨S,_⟩
         simp only [LC,set_set]at S
         simp only [BS,LB,Nat.reduceLT,Nat.reduceEqDiff,Nat.reduceAdd,r15,w]
         exact R (k+1) _ _ (by omega) ⟨by omega,v2,S.drop1,by simp [aa,r0],by simp [aa,r1],by simp [aa,r13],by simp [aa,r14],by simp [aa]⟩
     . exact⟨Xe _,S,by simp [aa,r0],by simp [aa,r1],by simp [aa,r13],by simp [aa,r14],by simp [aa,r15],by simp [aa,ac],by simp [aa],by simp [aa]⟩
   . have:k=xs.length:=by omega
     subst this
     rw [Xr]at S
     simp only [BS,LB,Nat.reduceLT,r14,r15,an,hlt]
     exact⟨v',Q.rebase S⟩
 . exact⟨Xe _,v,by rw [set_self y];simp only [Xo,Xm,Xq];rw [set_self z];exact S,by simp [aa,aG,ac],by simp [aa,aG,bK],by simp [aa,aG,bK],by simp [aa],by simp [aa]⟩
theorem put64_ok{M:Nat->Prop}{H hq:Hp}{L:List (Nat×Ob)}{G:List GL}(S:St M H hq L G){i j e:Nat}{v f:Value}{l:Bs}{xs:List Int}{many:Nat}(y:L[i]? =some (e,.row [v] 1))(z:G[j]? =some (v,1,aY l))(I:ay hq 1 (encI .u64) f xs)
 (P: ∀c,aq f c->c∉keys L G) (A:many<=8) (Q: ∀x∈xs,((u64 x:Nat):Int)=x) (hl:l.length+8*xs.length<=1000000):
 Ret zB 102 [ptrTo e,.int .i64 (many:Nat),f] hq fun r g=> ∃v',St M H g (L.set i (e,.row [v'] 1)) (G.set j (v',1,aY (l++xs.flatMap fun x=>aR many (u64 x)))):=by
 have R:=S
 have ok:=S.ok
 replace S:=S.base
 refine ab (n:=41) (rs:=[]) rfl Tryz.e102 rfl rfl rfl (lbt rfl) ?_
 simp only [BS,LB,Nat.reduceLT,Nat.reduceEqDiff,FF,I.lenq]
 refine az (fun(k:Nat) d g=>k<=xs.length/\ ∃v',St (· ∈keys L G) hq g (L.set i (e,.row [v'] 1)) (G.set j (v',1,aY (l++(xs.take k).flatMap fun x=>aR many (u64 x))))/\d 0=ptrTo e/\d 1=.int .i64 (many:Nat)/\d 13=f/\d 14=.int .i64 xs.length/\d 15=.int .i64 k) (fun k=>xs.length-k) ?_ 0 _ _ ?_
 . clear S
   intro k T d h1 ⟨hk,v',S,r0,r1,r13,r14,r15⟩
   have B:=I.mo S.fr P
   by_cases hlt:k<xs.length
   . obtain⟨c,o,p,C⟩:=B.ix (kd:=.i64) (aH .u64) hlt
     have w:am .i64 ((k:Int)+1)=((k+1:Nat):Int):=by rw [wrap64]<;>omega
     have U:xs.take (k+1)=xs.take k++[xs[k]]:=Xf hlt
     simp only [BS,LB,Nat.reduceLT,Nat.reduceEqDiff,FF,r13,r14,r15,an,hlt,p,C,encI]
     refine ag av S ?_;clear S;intro h s S J
     have V:[Value.int .u8 0,.int .u8 0,.int .u8 0,.int .u8 0,.int .u8 0,.int .u8 0,.int .u8 0,.int .u8 0]=li (u64 xs[k]) 0:=rfl
     rw [V]at S
     simp only [BS,LB,Nat.reduceLT,Nat.reduceEqDiff]
     refine az (fun(a:Nat) d g=>a<=8/\St (· ∈keys L G) hq g ((s,.row (li (u64 xs[k]) a) 1)::L.set i (e,.row [v'] 1)) (G.set j (v',1,aY (l++(xs.take k).flatMap fun x=>aR many (u64 x))))/\d 0=ptrTo e/\d 1=.int .i64 (many:Nat)/\d 13=f/\d 14=.int .i64 xs.length/\d 15=.int .i64 k/\d 8=ptrTo s/\d 9=.int .u64 ((u64 xs[k]/256 ^a:Nat):Int)/\d 20=.int .i64 a) (fun a=>8-a) ?_ 0 _ _ ?_
     . clear S r0 r1 r13 r14 r15
       intro a D d K ⟨ha,S,r0,r1,r13,r14,r15,r8,r9,r21⟩
       have W:am .i64 ((a:Int)+1)=((a+1:Nat):Int):=by rw [wrap64]<;>omega
       by_cases t:a<8
       . have u:(a:Int)<8:=by omega
         have N:=wrapN (k:=.u8) rfl (u64 xs[k]/256 ^a)
         simp only [pw]at N
         have X:(u64 xs[k]/256 ^a)>>>8=u64 xs[k]/256 ^(a+1):=by rw [Xt,XJ];rfl
         simp only [BS,LB,ck,aF,cq,Nat.reduceLT,Nat.reduceEqDiff,FF,r8,r9,r21,u,N,nG (n:=8) t,oE (k:=.u64) (by decide)]
         refine aw (ar S (i:=0) rfl Tryz.t5.2.2.1 cg (by rw [j9];exact t) ono) ?_
         clear S;rintro K ⟨S,_⟩
         simp only [LC,sg]at S
         simp only [BS,LB,Nat.reduceLT,Nat.reduceEqDiff,r9,r21,oE (k:=.u64) (by decide),X,W]
         exact D (a+1) _ _ (by omega) ⟨by omega,S,by simp [aa,r0],by simp [aa,r1],by simp [aa,r13],by simp [aa,r14],by simp [aa,r15],by simp [aa,r8,ac],by simp [aa],by simp [aa]⟩
       . have Y:a=8:=by omega
         subst Y
         have Z:=(S.row (b:=e) (.tail _ (Xc (dH y)))).load1 (o:=0) rfl
         have O:=S.lds (b:=s) (o:=0) (n:=many) m0 (by rw [j9];omega)
         rw [Xd,qv A]at O
         have E:aA K 1 (.slice (some ⟨s,0,none⟩) many 8)=some (many,aY (aR many (u64 xs[k]))):=by simp only [aA];rw [Xi,O]
         have F:=qQ (n:=8) (b:=s) (many:=many) (k:=.i64) Tryz.t242.1 Tryz.t5.2.2.1 A
         simp only [BS,LB,Nat.reduceLT,Nat.reduceEqDiff,Int.reduceLT,Xg,r15,r21]
         refine au (ax rfl) (q:=0) (ps:=[]) (by kernel_rfl) ?_
         simp only [BS,LB,cls,Nat.reduceLT,Nat.reduceEqDiff,Nat.reduceAdd,Nat.reducePow,Nat.reduceDiv,Nat.reduceMod,Nat.reduceLeDiff,XD,XH,FF,r0,r1,r8,Z,F]
         refine jx (S.grow (j:=j) (m:=many) (new:=aY (aR many (u64 xs[k]))) (dH z) Tryz.t22.1 XT (by decide) Tryz.t22.2.2.2.2.2 E (by rw [eP,aJ,Xi]) (by decide) (ot _) (by
          have l1:(xs.take k).length=k:=by rw [Xj];omega
          have l2:many*k<=8*k:=XA _ A
          rw [eP,eP,aJ,Xa,dJ (fun x=>aJ many _),l1];omega)) ?_
         clear S;rintro h3 v2 S
         have fv:=(S.gown _ (Xc (dH (dH z)))).1.fl
         have tl:aY (l++(xs.take k).flatMap fun x=>aR many (u64 x))++aY (aR many (u64 xs[k]))=aY (l++(xs.take (k+1)).flatMap fun x=>aR many (u64 x)):=by
          rw [<-kX,U,Xn,Xs];simp
         rw [set_set,tl]at S
         simp only [BS,LB,cls,Nat.reduceLT,Nat.reduceEqDiff,Nat.reduceAdd,Nat.reducePow,Nat.reduceDiv,Nat.reduceMod,Nat.reduceLeDiff,FF]
         refine d9 (ar S (i:=i+1) (dH y) Tryz.t22.2.2.1 fv (Xb (lbt rfl)) ono) ?_
         clear S;rintro h4 ⟨S,_⟩
         simp only [LC,set_set]at S
         simp only [BS,LB,Nat.reduceLT,Nat.reduceEqDiff,Nat.reduceAdd,r15,w]
         exact T (k+1) _ _ (by omega) ⟨by omega,v2,S.drop1,by simp [aa,r0],by simp [aa,r1],by simp [aa,r13],by simp [aa,r14],by simp [aa]⟩
     . exact⟨Xe _,S,by simp [aa,r0],by simp [aa,r1],by simp [aa,r13],by simp [aa,r14],by simp [aa,r15],by simp [aa,ac],by simp [aa,Q _ (XQ hlt)],by simp [aa]⟩
   . have:k=xs.length:=by omega
     subst this
     rw [Xr]at S
     simp only [BS,LB,Nat.reduceLT,r14,r15,an,hlt]
     exact⟨v',R.rebase S⟩
 . exact⟨Xe _,v,by rw [set_self y];simp only [Xo,Xm,Xq];rw [set_self z];exact S,by simp [aa,aG,ac],by simp [aa,aG,bK],by simp [aa,aG,bK],by simp [aa],by simp [aa]⟩
theorem putI_ok{M:Nat->Prop}{H hq:Hp}{L:List (Nat×Ob)}{G:List GL}(S:St M H hq L G){i j e:Nat}{v f:Value}{l:Bs}{xs:List Int}{many:Nat}(y:L[i]? =some (e,.row [v] 1))(z:G[j]? =some (v,1,aY l))(I:ay hq 1 (encI .i64) f xs)
 (P: ∀c,aq f c->c∉keys L G) (A:many<=8) (hl:l.length+8*xs.length<=1000000):
 Ret zB 204 [ptrTo e,.int .i64 (many:Nat),f] hq fun r g=> ∃v',St M H g (L.set i (e,.row [v'] 1)) (G.set j (v',1,aY (l++xs.flatMap fun x=>aR many (u64 x)))):=by
 have Q:=S
 have ok:=S.ok
 replace S:=S.base
 refine ab (n:=42) (rs:=[]) rfl Tryz.e204 rfl rfl rfl (lbt rfl) ?_
 simp only [BS,LB,Nat.reduceLT,Nat.reduceEqDiff,FA,I.lenq]
 refine az (fun(k:Nat) d g=>k<=xs.length/\ ∃v',St (· ∈keys L G) hq g (L.set i (e,.row [v'] 1)) (G.set j (v',1,aY (l++(xs.take k).flatMap fun x=>aR many (u64 x))))/\d 0=ptrTo e/\d 1=.int .i64 (many:Nat)/\d 13=f/\d 14=.int .i64 xs.length/\d 15=.int .i64 k) (fun k=>xs.length-k) ?_ 0 _ _ ?_
 . clear S
   intro k R d h1 ⟨hk,v',S,r0,r1,r13,r14,r15⟩
   have B:=I.mo S.fr P
   by_cases hlt:k<xs.length
   . obtain⟨c,o,p,C⟩:=B.ix (kd:=.i64) (aH .i64) hlt
     have w:am .i64 ((k:Int)+1)=((k+1:Nat):Int):=by rw [wrap64]<;>omega
     have T:xs.take (k+1)=xs.take k++[xs[k]]:=Xf hlt
     simp only [BS,LB,Nat.reduceLT,Nat.reduceEqDiff,FA,r13,r14,r15,an,hlt,p,C,encI]
     refine ag av S ?_;clear S;intro h s S J
     have U:[Value.int .u8 0,.int .u8 0,.int .u8 0,.int .u8 0,.int .u8 0,.int .u8 0,.int .u8 0,.int .u8 0]=li (u64 xs[k]) 0:=rfl
     rw [U]at S
     simp only [BS,LB,ck,aF,cq,Nat.reduceLT,Nat.reduceEqDiff,FA,wrap_u64]
     refine az (fun(a:Nat) d g=>a<=8/\St (· ∈keys L G) hq g ((s,.row (li (u64 xs[k]) a) 1)::L.set i (e,.row [v'] 1)) (G.set j (v',1,aY (l++(xs.take k).flatMap fun x=>aR many (u64 x))))/\d 0=ptrTo e/\d 1=.int .i64 (many:Nat)/\d 13=f/\d 14=.int .i64 xs.length/\d 15=.int .i64 k/\d 8=ptrTo s/\d 9=.int .u64 ((u64 xs[k]/256 ^a:Nat):Int)/\d 21=.int .i64 a) (fun a=>8-a) ?_ 0 _ _ ?_
     . clear S r0 r1 r13 r14 r15
       intro a D d K ⟨ha,S,r0,r1,r13,r14,r15,r8,r9,r21⟩
       have V:am .i64 ((a:Int)+1)=((a+1:Nat):Int):=by rw [wrap64]<;>omega
       by_cases t:a<8
       . have u:(a:Int)<8:=by omega
         have N:=wrapN (k:=.u8) rfl (u64 xs[k]/256 ^a)
         simp only [pw]at N
         have W:(u64 xs[k]/256 ^a)>>>8=u64 xs[k]/256 ^(a+1):=by rw [Xt,XJ];rfl
         simp only [BS,LB,ck,aF,cq,Nat.reduceLT,Nat.reduceEqDiff,FA,r8,r9,r21,u,N,nG (n:=8) t,oE (k:=.u64) (by decide)]
         refine aw (ar S (i:=0) rfl Tryz.t5.2.2.1 cg (by rw [j9];exact t) ono) ?_
         clear S;rintro K ⟨S,_⟩
         simp only [LC,sg]at S
         simp only [BS,LB,Nat.reduceLT,Nat.reduceEqDiff,r9,r21,oE (k:=.u64) (by decide),W,V]
         exact D (a+1) _ _ (by omega) ⟨by omega,S,by simp [aa,r0],by simp [aa,r1],by simp [aa,r13],by simp [aa,r14],by simp [aa,r15],by simp [aa,r8,ac],by simp [aa],by simp [aa]⟩
       . have X:a=8:=by omega
         subst X
         have Y:=(S.row (b:=e) (.tail _ (Xc (dH y)))).load1 (o:=0) rfl
         have O:=S.lds (b:=s) (o:=0) (n:=many) m0 (by rw [j9];omega)
         rw [Xd,qv A]at O
         have E:aA K 1 (.slice (some ⟨s,0,none⟩) many 8)=some (many,aY (aR many (u64 xs[k]))):=by simp only [aA];rw [Xi,O]
         have F:=qQ (n:=8) (b:=s) (many:=many) (k:=.i64) Tryz.t242.1 Tryz.t5.2.2.1 A
         simp only [BS,LB,Nat.reduceLT,Nat.reduceEqDiff,Int.reduceLT,Xg,r15,r21]
         refine au (ax rfl) (q:=0) (ps:=[]) (by kernel_rfl) ?_
         simp only [BS,LB,cls,Nat.reduceLT,Nat.reduceEqDiff,Nat.reduceAdd,Nat.reducePow,Nat.reduceDiv,Nat.reduceMod,Nat.reduceLeDiff,XD,XH,FA,r0,r1,r8,Y,F]
         refine jx (S.grow (j:=j) (m:=many) (new:=aY (aR many (u64 xs[k]))) (dH z) Tryz.t22.1 XT (by decide) Tryz.t22.2.2.2.2.2 E (by rw [eP,aJ,Xi]) (by decide) (ot _) (by
          have Z:(xs.take k).length=k:=by rw [Xj];omega
          have l2:many*k<=8*k:=XA _ A
          rw [eP,eP,aJ,Xa,dJ (fun x=>aJ many _),Z];omega)) ?_
         clear S;rintro h3 v2 S
         have fv:=(S.gown _ (Xc (dH (dH z)))).1.fl
         have tl:aY (l++(xs.take k).flatMap fun x=>aR many (u64 x))++aY (aR many (u64 xs[k]))=aY (l++(xs.take (k+1)).flatMap fun x=>aR many (u64 x)):=by
          rw [<-kX,T,Xn,Xs];simp
         rw [set_set,tl]at S
         simp only [BS,LB,cls,Nat.reduceLT,Nat.reduceEqDiff,Nat.reduceAdd,Nat.reducePow,Nat.reduceDiv,Nat.reduceMod,Nat.reduceLeDiff,FA]
         refine d9 (ar S (i:=i+1) (dH y) Tryz.t22.2.2.1 fv (Xb (lbt rfl)) ono) ?_
         clear S;rintro h4 ⟨S,_⟩
         simp only [LC,set_set]at S
         simp only [BS,LB,Nat.reduceLT,Nat.reduceEqDiff,Nat.reduceAdd,r15,w]
         exact R (k+1) _ _ (by omega) ⟨by omega,v2,S.drop1,by simp [aa,r0],by simp [aa,r1],by simp [aa,r13],by simp [aa,r14],by simp [aa]⟩
     . exact⟨Xe _,S,by simp [aa,r0],by simp [aa,r1],by simp [aa,r13],by simp [aa,r14],by simp [aa,r15],by simp [aa,ac],by simp [aa],by simp [aa]⟩
   . have:k=xs.length:=by omega
     subst this
     rw [Xr]at S
     simp only [BS,LB,Nat.reduceLT,r14,r15,an,hlt]
     exact⟨v',Q.rebase S⟩
 . exact⟨Xe _,v,by rw [set_self y];simp only [Xo,Xm,Xq];rw [set_self z];exact S,by simp [aa,aG,ac],by simp [aa,aG,bK],by simp [aa,aG,bK],by simp [aa],by simp [aa]⟩
theorem xc{M:Nat->Prop}{d hq:Hp}{L:List (Nat×Ob)}{G:List GL}(S:St M d hq L G){i j a:Nat}{v b:Value}{l:Bs}{xs:List Int}(e:L[i]? =some (a,.row [v] 1))(f:G[j]? =some (v,1,aY l))(g:ay hq 1 (encI .u8) b xs)
 (k: ∀c,aq b c->c∉keys L G) (m:l.length+8*xs.length<=1000000):
 Ret zB 41 [ptrTo a,b] hq fun r o=> ∃v',St M d o (L.set i (a,.row [v'] 1)) (G.set j (v',1,aY (l++xs.flatMap fun x=>aR 1 (u64 x)))):=by
 refine ab (n:=7) (rs:=[]) rfl Tryz.e41 rfl rfl rfl (lbt rfl) ?_
 simp only [BS,LB,Nat.reduceLT,Nat.reduceEqDiff]
 refine step_ret (put8_ok (many:=1) S e f g k (by decide) m) ?_
 rintro r h ⟨v',p⟩
 simp only [BS]
 exact⟨v',p⟩
theorem rf{M:Nat->Prop}{d hq:Hp}{L:List (Nat×Ob)}{G:List GL}(S:St M d hq L G){i j a:Nat}{v b:Value}{l:Bs}{xs:List Int}(e:L[i]? =some (a,.row [v] 1))(f:G[j]? =some (v,1,aY l))(g:ay hq 1 (encI .u32) b xs)
 (k: ∀c,aq b c->c∉keys L G) (m:l.length+8*xs.length<=1000000):
 Ret zB 43 [ptrTo a,b] hq fun r o=> ∃v',St M d o (L.set i (a,.row [v'] 1)) (G.set j (v',1,aY (l++xs.flatMap fun x=>aR 4 (u64 x)))):=by
 refine ab (n:=7) (rs:=[]) rfl Tryz.e43 rfl rfl rfl (lbt rfl) ?_
 simp only [BS,LB,Nat.reduceLT,Nat.reduceEqDiff]
 refine step_ret (put32_ok (many:=4) S e f g k (by decide) m) ?_
 rintro r h ⟨v',p⟩
 simp only [BS]
 exact⟨v',p⟩
theorem wU64_ok{M:Nat->Prop}{d hq:Hp}{L:List (Nat×Ob)}{G:List GL}(S:St M d hq L G){i j a:Nat}{v b:Value}{l:Bs}{xs:List Int}(e:L[i]? =some (a,.row [v] 1))(f:G[j]? =some (v,1,aY l))(g:ay hq 1 (encI .u64) b xs)
 (k: ∀c,aq b c->c∉keys L G) (m: ∀x∈xs,((u64 x:Nat):Int)=x) (o:l.length+8*xs.length<=1000000):
 Ret zB 42 [ptrTo a,b] hq fun r p=> ∃v',St M d p (L.set i (a,.row [v'] 1)) (G.set j (v',1,aY (l++xs.flatMap fun x=>aR 8 (u64 x)))):=by
 refine ab (n:=7) (rs:=[]) rfl Tryz.e42 rfl rfl rfl (lbt rfl) ?_
 simp only [BS,LB,Nat.reduceLT,Nat.reduceEqDiff]
 refine step_ret (put64_ok (many:=8) S e f g k (by decide) m o) ?_
 rintro r h ⟨v',q⟩
 simp only [BS]
 exact⟨v',q⟩
theorem xU{M:Nat->Prop}{d hq:Hp}{L:List (Nat×Ob)}{G:List GL}(S:St M d hq L G){i j a:Nat}{v b:Value}{l:Bs}{xs:List Int}(e:L[i]? =some (a,.row [v] 1))(f:G[j]? =some (v,1,aY l))(g:ay hq 1 (encI .i64) b xs)
 (k: ∀c,aq b c->c∉keys L G) (m:l.length+8*xs.length<=1000000):
 Ret zB 154 [ptrTo a,b] hq fun r o=> ∃v',St M d o (L.set i (a,.row [v'] 1)) (G.set j (v',1,aY (l++xs.flatMap fun x=>aR 8 (u64 x)))):=by
 refine ab (n:=7) (rs:=[]) rfl Tryz.e154 rfl rfl rfl (lbt rfl) ?_
 simp only [BS,LB,Nat.reduceLT,Nat.reduceEqDiff]
 refine step_ret (putI_ok (many:=8) S e f g k (by decide) m) ?_
 rintro r h ⟨v',p⟩
 simp only [BS]
 exact⟨v',p⟩
theorem zS{M:Nat->Prop}{c hq:Hp}{L:List (Nat×Ob)}{G:List GL}(S:St M c hq L G){i j a:Nat}{v:Value}{l m:Bs}(d:L[i]? =some (a,.row [v] 1))(e:G[j]? =some (v,1,aY l))(q:l.length+m.length<=1000000):
 Ret zB 40 [ptrTo a,sv m] hq fun r f=> ∃v',St M c f (L.set i (a,.row [v'] 1)) (G.set j (v',1,aY (l++m))):=by
 have s:=S.ok
 have g:=(S.row (b:=a) (Xc d)).load1 (o:=0) rfl
 refine ab (n:=15) (rs:=[]) rfl Tryz.e40 rfl rfl rfl (lbt rfl) ?_
 simp only [BS,LB,Nat.reduceLT,Nat.reduceEqDiff,F0l,g]
 refine dT (S.grow (j:=j) (m:=m.length) (new:=aY m) e Tryz.t22.1 XT (by decide) Tryz.t9.2.2.2.2 src_sv (by rw [eP,Xi]) (by decide) (ot _) (by rw [eP,eP];omega)) ?_
 clear S;rintro h k S
 have p:=(S.gown _ (Xc (dH e))).1.fl
 rw [<-kX]at S
 simp only [BS,LB,Nat.reduceLT,Nat.reduceEqDiff,F0l]
 refine aw (ar S (i:=i) d Tryz.t22.2.2.1 p (Xb (lbt rfl)) ono) ?_
 clear S;rintro h ⟨S,_⟩
 simp only [LC]at S
 simp only [BS]
 exact⟨k,S⟩
theorem by_of{h:Hp}{v:Value}{l:Bs}(g:ip h (v,1,aY l)):BySl h v l:=g.sl (byF l).symm (fun _=>rfl) (by decide)
theorem kE{a:Hp}(c:a.t.Sized a.n){b:Nat}{v:Value}{l:Bs}(d:a.load b 0 1=some [v])(g:ip a (v,1,aY l)):bG zB 45 [ptrTo b] a (sv l):=by
 have S:=Si c
 refine ab (n:=10) (rs:=[.tmp 2]) rfl Tryz.e45 rfl rfl rfl (lbt rfl) ?_
 simp only [BS,LB,ck,aF,ae,Nat.reduceLT,Nat.reduceEqDiff,F14,d,A3 (by_of g)]
 exact S.gr
theorem oK{M:Nat->Prop}{b hq:Hp}{L:List (Nat×Ob)}{G:List GL}(S:St M b hq L G):Ret zB 39 [] hq fun r d=> ∃a,r=ptrTo a/\St M b d ((a,.row [.slice none 0 0] 1)::L) ((.slice none 0 0,1,aY [])::G):=by
 have f:=S.ok
 refine ab (n:=3) (rs:=[.tmp 0]) rfl Tryz.e39 rfl rfl rfl (lbt rfl) ?_
 simp only [BS,LB,Nat.reduceLT,Nat.reduceEqDiff,F15]
 refine ag (bU (by intro x e;cases e)) S ?_;clear S;intro h a S c;simp only [ah]at S
 simp only [BS,LB,ae,Nat.reduceLT,Nat.reduceEqDiff]
 exact⟨a,rfl,S.nilG⟩
def Tryz.Fu:=aj t1<|aj t2<|aj t3<|aj t4<|aj t5<|aj t6<|aj Z0<|aj Z2<|aj t9<|aj t10<|aj t11<|aj t29<|aj t119<|aj Z17<|aj t128<|Z7
def Tryz.F05:=aj t1<|aj t2<|aj t3<|aj t4<|aj t5<|aj t6<|aj Z0<|aj Z2<|aj t9<|aj t85<|aj t119<|aj t128<|Z7
def Tryz.F06:=aj t1<|aj t2<|aj t3<|aj t4<|aj t5<|aj t6<|aj Z0<|aj Z2<|aj t9<|aj t58<|aj t85<|aj t119<|aj t128<|Z7
def Tryz.F0m:=aj t1<|aj t2<|aj t3<|aj t4<|aj t5<|aj t6<|aj Z0<|aj Z2<|aj t9<|aj t85<|aj t119<|aj t128<|Z7
def Tryz.F07:=aj t1<|aj t2<|aj t3<|aj t4<|aj t5<|aj t6<|aj Z0<|aj Z2<|aj t9<|aj t85<|aj t119<|aj t128<|Z7
def Tryz.F16:=aj t1<|aj t2<|aj t3<|aj t4<|aj t9<|aj t119<|aj Z17<|aj t128<|Z7
def Tryz.F0n:=aj t1<|aj t2<|aj t3<|aj t4<|aj t9<|aj t119<|aj Z17<|aj t128<|Z7
def rdC(s:Bs)(a:Nat)(f:Value):List Value:=[sv s,.int .i64 (a:Nat),f]
def RdF(f:Value)(bad:Bool):Prop:=if bad=true then∃x,f=.pointer (some x)else f=.pointer none
def Int4(l:List Value):Prop:= ∃x y z w:Int,l=[.int .i64 x,.int .i64 y,.int .i64 z,.int .i64 w]
def RdO(d h:Hp)(f:Value)(bad:Bool)(c:Value)(a:Bool):Prop:=RdF c a/\((c=f/\a=bad)\/ ∃b l,c=ptrTo b/\d.n<=b/\Int4 l/\Row h b l 1)
def bM(s:Bs)(a:Nat)(bad:Bool)(n:Nat):Bs×Nat×Bool:=if bad=true\/s.length<a+n then([],a,true)else((s.drop a).take n,a+n,false)
theorem kp{s:Bs}{a n:Nat}{bad:Bool}:(bM s a bad n).1.length<=n:=by
 unfold bM;split<;>simp<;>omega
theorem mO{s:Bs}{a n:Nat}{bad:Bool}(h:a<=s.length):(bM s a bad n).2.1<=s.length:=by
 unfold bM;split
 . exact h
 . show a+n<=s.length;omega
theorem q9{M:Nat->Prop}{p hq:Hp}{L:List (Nat×Ob)}{G:List GL}(S:St M p hq L G){i g:Nat}{s:Bs}{a n:Nat}{f:Value}{bad:Bool}(j:L[i]? =some (g,.row (rdC s a f) 1))(hf:RdF f bad)(F:a<=s.length)(H:s.length<=1000000)(I:n<=10000000):
 Ret zB 173 [ptrTo g,.int .i64 (n:Nat)] hq fun r y=>r=sv (bM s a bad n).1/\ ∃z,RdO p y f bad z (bM s a bad n).2.2/\St M p y (L.set i (g,.row (rdC s (bM s a bad n).2.1 z) 1)) G:=by
 have J:=S.ok
 have R:=S.row (b:=g) (Xc j)
 have t:=R.load1 (o:=0) rfl
 have u:=R.load1 (o:=1) rfl
 have v:=R.load1 (o:=2) rfl
 cases bad with
 | true=>
   obtain⟨x,rfl⟩:=hf
   refine ab (n:=74) (rs:=[.tmp 4]) rfl Tryz.e173 rfl rfl rfl (lbt rfl) ?_
   simp only [BS,LB,ae,Nat.reduceLT,Nat.reduceEqDiff,Fu,v]
   exact⟨rfl,_,⟨⟨x,rfl⟩,.inl ⟨rfl,rfl⟩⟩,by unfold bM;rw [if_pos (.inl rfl),set_self j];exact S⟩
 | false=>
   have hf:f=.pointer none:=hf
   subst hf
   have A: ¬((n:Int)<0):=by omega
   have B:am .i64 ((s.length:Int)-(a:Int))=((s.length-a:Nat):Int):=by rw [wrap64]<;>omega
   have D:am .i64 ((a:Int)+(n:Int))=((a+n:Nat):Int):=by rw [wrap64]<;>omega
   by_cases m:s.length<a+n
   . have w:((s.length-a:Nat):Int)<(n:Int):=by omega
     refine ab (n:=74) (rs:=[.tmp 4]) rfl Tryz.e173 rfl rfl rfl (lbt rfl) ?_
     simp only [BS,LB,Nat.reduceLT,Nat.reduceEqDiff,Fu,v,A]
     refine au (ax rfl) (q:=0) (ps:=[]) (by kernel_rfl) ?_
     simp only [BS,LB,cls,Nat.reduceLT,Nat.reduceEqDiff,Nat.reduceAdd,Nat.reducePow,Nat.reduceDiv,Nat.reduceMod,Nat.reduceLeDiff,Fu,t,u,fV,B,w]
     refine ag (bU (by intro x e;cases e)) S ?_;clear S;intro h C S d;simp only [ah]at S
     simp only [BS,LB,Nat.reduceLT,Nat.reduceEqDiff,Fu]
     refine aw (ar S (i:=i+1) j Tryz.t128.2.2.1 cP (Xb (lbt rfl)) ono) ?_
     clear S;rintro h ⟨S,_⟩
     simp only [BS,LB,ae,Nat.reduceLT,Nat.reduceEqDiff]
     exact⟨by unfold bM;rw [if_pos (.inr m)];rfl,.pointer (some ⟨C,0,none⟩),by unfold bM;rw [if_pos (.inr m)];exact⟨⟨_,rfl⟩,.inr ⟨C,_,rfl,d,⟨_,_,_,_,rfl⟩,S.row (Xc (i:=0) rfl)⟩⟩,by unfold bM;rw [if_pos (.inr m)];exact S.drop1⟩
   . have w: ¬((s.length-a:Nat):Int)<(n:Int):=by omega
     have E:=slice_sv (l:=s) (k:=.i64) (k':=.i64) (a:=a) (b:=a+n) Tryz.t9.1 (by omega) (by omega)
     refine ab (n:=74) (rs:=[.tmp 4]) rfl Tryz.e173 rfl rfl rfl (lbt rfl) ?_
     simp only [BS,LB,Nat.reduceLT,Nat.reduceEqDiff,Fu,v,A]
     refine au (ax rfl) (q:=0) (ps:=[]) (by kernel_rfl) ?_
     simp only [BS,LB,cls,Nat.reduceLT,Nat.reduceEqDiff,Nat.reduceAdd,Nat.reducePow,Nat.reduceDiv,Nat.reduceMod,Nat.reduceLeDiff,Fu,t,u,fV,B,w]
     refine au (ax rfl) (q:=0) (ps:=[]) (by kernel_rfl) ?_
     simp only [BS,LB,cls,Nat.reduceLT,Nat.reduceEqDiff,Nat.reduceAdd,Nat.reducePow,Nat.reduceDiv,Nat.reduceMod,Nat.reduceLeDiff,XD,XH,Fu,t,u,D,E]
     refine aw (ar S (i:=i) j Tryz.t3.2.2.1 cg (Xb (lbt rfl)) ono) ?_
     clear S;rintro h ⟨S,_⟩
     simp only [BS,LB,ae,Nat.reduceLT,Nat.reduceEqDiff]
     have e:(s.take (a+n)).drop a=(s.drop a).take n:=by rw [List.drop_take];congr 1;omega
     have c: ¬((false:Bool)=true\/s.length<a+n):=by rintro(h|h);cases h;exact m h
     exact⟨by unfold bM;rw [if_neg c,e],.pointer none,by unfold bM;rw [if_neg c];exact⟨rfl,.inl ⟨rfl,rfl⟩⟩,by unfold bM;rw [if_neg c];exact S⟩
theorem wY{l:Bs}{i:Nat}(h:i<l.length):bz (l.take i)|||(l[i].toNat*2 ^(8*i))=bz (l.take (i+1)):=by
 have a:(l.take i).length=i:=by rw [Xj];omega
 have b:=jI (l.take i)
 rw [a,show(256:Nat)=2 ^8 from rfl,<-Nat.pow_mul]at b
 rw [Xf h,BI,a,show(256:Nat) ^i=2 ^(8*i) by rw [Nat.pow_mul]]
 have:=Nat.two_pow_add_eq_or_of_lt b l[i].toNat
 rw [Nat.or_comm,XY l[i].toNat,<-this,show bz [l[i]]=l[i].toNat by simp [bz]]
 omega
theorem wP{M:Nat->Prop}{d hq:Hp}{L:List (Nat×Ob)}{G:List GL}(S:St M d hq L G){i e:Nat}{s:Bs}{a:Nat}{f:Value}{bad:Bool}(D:L[i]? =some (e,.row (rdC s a f) 1))(hf:RdF f bad)(F:a<=s.length)(H:s.length<=1000000):
 Ret zB 112 [ptrTo e] hq fun r b=>r=.int .u8 (bz (bM s a bad 1).1:Nat)/\ ∃g,RdO d b f bad g (bM s a bad 1).2.2/\St M d b (L.set i (e,.row (rdC s (bM s a bad 1).2.1 g) 1)) G:=by
 have R:=S.ok
 have v:=kp (s:=s) (a:=a) (n:=1) (bad:=bad)
 have m:Ret zB 166 [ptrTo e,.int .i64 1] hq fun r b=>r=.int .u8 (bz (bM s a bad 1).1:Nat)/\ ∃g,RdO d b f bad g (bM s a bad 1).2.2/\St M d b (L.set i (e,.row (rdC s (bM s a bad 1).2.1 g) 1)) G:=by
  refine ab (n:=28) (rs:=[.tmp 4]) rfl Tryz.e166 rfl rfl rfl (lbt rfl) ?_
  simp only [BS,LB,Nat.reduceLT,Nat.reduceEqDiff]
  refine step_ret (q9 (n:=1) S D hf F H (by decide)) ?_
  rintro r h ⟨rfl,P⟩
  generalize(bM s a bad 1).1=l at v
  have T:=jI l
  have I:256 ^l.length<=256 ^1:=Xp (by decide) v
  simp only [Nat.reducePow]at I
  simp only [BS,LB,Nat.reduceLT,Nat.reduceEqDiff,F05,fV]
  refine az (fun(k:Nat) j b=>k<=l.length/\b=h/\j 5=sv l/\j 6=.int .u64 (bz (l.take k):Nat)/\j 12=.int .i64 l.length/\j 13=.int .i64 k) (fun k=>l.length-k) ?_ 0 _ _ ?_
  . rintro k J j b ⟨U,rfl,z,o,c,r13⟩
    have w:am .i64 ((k:Int)+1)=((k+1:Nat):Int):=by rw [wrap64]<;>omega
    by_cases hlt:k<l.length
    . have V:=rW l[k]
      have K:=cC (k:=.u64) rfl (n:=l[k].toNat) (by simp only [pw];omega)
      have N:am .i64 (8*(k:Int))=((8*k:Nat):Int):=by rw [wrap64]<;>omega
      have A:l[k].toNat*2 ^(8*k)<18446744073709551616:=by
       have:k=0\/k=1\/k=2\/k=3\/k=4\/k=5\/k=6\/k=7:=by omega
       rcases this with rfl|rfl|rfl|rfl|rfl|rfl|rfl|rfl<;>simp only [Nat.reduceMul,Nat.reducePow]<;>omega
      have O:bz (l.take k)<18446744073709551616:=by
       have W:=jI (l.take k)
       have:256 ^(l.take k).length<=256 ^8:=Xp (by decide) (by rw [Xj];omega)
       omega
      have B:=fun(t:TypeId) (p q:Operand)=>vG (E:=zB) (t:=t) (p:=p) (q:=q) (k:=.u64) (k':=.i64) (x:=l[k].toNat) (y:=8*k) rfl (by show _<=64;omega)
      simp only [pw,XR A]at B
      have C:=fun(t:TypeId) (p q:Operand)=>b_orN (E:=zB) (t:=t) (p:=p) (q:=q) (k:=.u64) (x:=bz (l.take k)) (y:=l[k].toNat*2 ^(8*k)) rfl O A
      simp only [wY hlt]at C
      simp only [BS,LB,ck,aF,cq,Nat.reduceLT,Nat.reduceEqDiff,F05,z,o,c,r13,an,hlt,p7 Tryz.t9.1 hlt,K,N,B,C,w]
      exact J (k+1) _ _ (by omega) ⟨by omega,rfl,by simp [aa,z],by simp [aa],by simp [aa,c],by simp [aa]⟩
    . have u:k=l.length:=by omega
      subst u
      rw [Xr]at o
      have Q:am .u8 ((bz l:Nat):Int)=_:=cC rfl (by simp only [pw];omega)
      simp only [BS,LB,ck,aF,cq,ae,Nat.reduceLT,Nat.reduceEqDiff,F05,o,c,r13,an,hlt,Q]
      exact P
  . exact⟨Xe _,rfl,by simp [aa],by simp [aa,bz],by simp [aa],by simp [aa]⟩
 refine ab (n:=5) (rs:=[.tmp 2]) rfl Tryz.e112 rfl rfl rfl (lbt rfl) ?_
 simp only [BS,LB,Nat.reduceLT,Nat.reduceEqDiff]
 refine step_ret m ?_
 rintro r h ⟨rfl,P⟩
 simp only [BS,LB,ae,Nat.reduceLT,Nat.reduceEqDiff]
 exact P
theorem xG{M:Nat->Prop}{d hq:Hp}{L:List (Nat×Ob)}{G:List GL}(S:St M d hq L G){i e:Nat}{s:Bs}{a:Nat}{f:Value}{bad:Bool}(D:L[i]? =some (e,.row (rdC s a f) 1))(hf:RdF f bad)(F:a<=s.length)(H:s.length<=1000000):
 Ret zB 121 [ptrTo e] hq fun r b=>r=.int .u32 (bz (bM s a bad 4).1:Nat)/\ ∃g,RdO d b f bad g (bM s a bad 4).2.2/\St M d b (L.set i (e,.row (rdC s (bM s a bad 4).2.1 g) 1)) G:=by
 have R:=S.ok
 have v:=kp (s:=s) (a:=a) (n:=4) (bad:=bad)
 have m:Ret zB 172 [ptrTo e,.int .i64 4] hq fun r b=>r=.int .u32 (bz (bM s a bad 4).1:Nat)/\ ∃g,RdO d b f bad g (bM s a bad 4).2.2/\St M d b (L.set i (e,.row (rdC s (bM s a bad 4).2.1 g) 1)) G:=by
  refine ab (n:=28) (rs:=[.tmp 4]) rfl Tryz.e172 rfl rfl rfl (lbt rfl) ?_
  simp only [BS,LB,Nat.reduceLT,Nat.reduceEqDiff]
  refine step_ret (q9 (n:=4) S D hf F H (by decide)) ?_
  rintro r h ⟨rfl,P⟩
  generalize(bM s a bad 4).1=l at v
  have T:=jI l
  have I:256 ^l.length<=256 ^4:=Xp (by decide) v
  simp only [Nat.reducePow]at I
  simp only [BS,LB,Nat.reduceLT,Nat.reduceEqDiff,F06,fV]
  refine az (fun(k:Nat) j b=>k<=l.length/\b=h/\j 5=sv l/\j 6=.int .u64 (bz (l.take k):Nat)/\j 12=.int .i64 l.length/\j 13=.int .i64 k) (fun k=>l.length-k) ?_ 0 _ _ ?_
  . rintro k J j b ⟨U,rfl,z,o,c,r13⟩
    have w:am .i64 ((k:Int)+1)=((k+1:Nat):Int):=by rw [wrap64]<;>omega
    by_cases hlt:k<l.length
    . have V:=rW l[k]
      have K:=cC (k:=.u64) rfl (n:=l[k].toNat) (by simp only [pw];omega)
      have N:am .i64 (8*(k:Int))=((8*k:Nat):Int):=by rw [wrap64]<;>omega
      have A:l[k].toNat*2 ^(8*k)<18446744073709551616:=by
       have:k=0\/k=1\/k=2\/k=3\/k=4\/k=5\/k=6\/k=7:=by omega
       rcases this with rfl|rfl|rfl|rfl|rfl|rfl|rfl|rfl<;>simp only [Nat.reduceMul,Nat.reducePow]<;>omega
      have O:bz (l.take k)<18446744073709551616:=by
       have W:=jI (l.take k)
       have:256 ^(l.take k).length<=256 ^8:=Xp (by decide) (by rw [Xj];omega)
       omega
      have B:=fun(t:TypeId) (p q:Operand)=>vG (E:=zB) (t:=t) (p:=p) (q:=q) (k:=.u64) (k':=.i64) (x:=l[k].toNat) (y:=8*k) rfl (by show _<=64;omega)
      simp only [pw,XR A]at B
      have C:=fun(t:TypeId) (p q:Operand)=>b_orN (E:=zB) (t:=t) (p:=p) (q:=q) (k:=.u64) (x:=bz (l.take k)) (y:=l[k].toNat*2 ^(8*k)) rfl O A
      simp only [wY hlt]at C
      simp only [BS,LB,ck,aF,cq,Nat.reduceLT,Nat.reduceEqDiff,F06,z,o,c,r13,an,hlt,p7 Tryz.t9.1 hlt,K,N,B,C,w]
      exact J (k+1) _ _ (by omega) ⟨by omega,rfl,by simp [aa,z],by simp [aa],by simp [aa,c],by simp [aa]⟩
    . have u:k=l.length:=by omega
      subst u
      rw [Xr]at o
      have Q:am .u32 ((bz l:Nat):Int)=_:=cC rfl (by simp only [pw];omega)
      simp only [BS,LB,ck,aF,cq,ae,Nat.reduceLT,Nat.reduceEqDiff,F06,o,c,r13,an,hlt,Q]
      exact P
  . exact⟨Xe _,rfl,by simp [aa],by simp [aa,bz],by simp [aa],by simp [aa]⟩
 refine ab (n:=5) (rs:=[.tmp 2]) rfl Tryz.e121 rfl rfl rfl (lbt rfl) ?_
 simp only [BS,LB,Nat.reduceLT,Nat.reduceEqDiff]
 refine step_ret m ?_
 rintro r h ⟨rfl,P⟩
 simp only [BS,LB,ae,Nat.reduceLT,Nat.reduceEqDiff]
 exact P
theorem rU64_ok{M:Nat->Prop}{d hq:Hp}{L:List (Nat×Ob)}{G:List GL}(S:St M d hq L G){i e:Nat}{s:Bs}{a:Nat}{f:Value}{bad:Bool}(D:L[i]? =some (e,.row (rdC s a f) 1))(hf:RdF f bad)(F:a<=s.length)(H:s.length<=1000000):
 Ret zB 171 [ptrTo e] hq fun r b=>r=.int .u64 (bz (bM s a bad 8).1:Nat)/\ ∃g,RdO d b f bad g (bM s a bad 8).2.2/\St M d b (L.set i (e,.row (rdC s (bM s a bad 8).2.1 g) 1)) G:=by
 have Q:=S.ok
 have v:=kp (s:=s) (a:=a) (n:=8) (bad:=bad)
 have m:Ret zB 211 [ptrTo e,.int .i64 8] hq fun r b=>r=.int .u64 (bz (bM s a bad 8).1:Nat)/\ ∃g,RdO d b f bad g (bM s a bad 8).2.2/\St M d b (L.set i (e,.row (rdC s (bM s a bad 8).2.1 g) 1)) G:=by
  refine ab (n:=27) (rs:=[.tmp 4]) rfl Tryz.e211 rfl rfl rfl (lbt rfl) ?_
  simp only [BS,LB,Nat.reduceLT,Nat.reduceEqDiff]
  refine step_ret (q9 (n:=8) S D hf F H (by decide)) ?_
  rintro r h ⟨rfl,P⟩
  generalize(bM s a bad 8).1=l at v
  have R:=jI l
  have I:256 ^l.length<=256 ^8:=Xp (by decide) v
  simp only [Nat.reducePow]at I
  simp only [BS,LB,Nat.reduceLT,Nat.reduceEqDiff,F0m,fV]
  refine az (fun(k:Nat) j b=>k<=l.length/\b=h/\j 5=sv l/\j 6=.int .u64 (bz (l.take k):Nat)/\j 12=.int .i64 l.length/\j 13=.int .i64 k) (fun k=>l.length-k) ?_ 0 _ _ ?_
  . rintro k J j b ⟨T,rfl,z,o,c,r13⟩
    have w:am .i64 ((k:Int)+1)=((k+1:Nat):Int):=by rw [wrap64]<;>omega
    by_cases hlt:k<l.length
    . have U:=rW l[k]
      have K:=cC (k:=.u64) rfl (n:=l[k].toNat) (by simp only [pw];omega)
      have N:am .i64 (8*(k:Int))=((8*k:Nat):Int):=by rw [wrap64]<;>omega
      have A:l[k].toNat*2 ^(8*k)<18446744073709551616:=by
       have:k=0\/k=1\/k=2\/k=3\/k=4\/k=5\/k=6\/k=7:=by omega
       rcases this with rfl|rfl|rfl|rfl|rfl|rfl|rfl|rfl<;>simp only [Nat.reduceMul,Nat.reducePow]<;>omega
      have O:bz (l.take k)<18446744073709551616:=by
       have V:=jI (l.take k)
       have:256 ^(l.take k).length<=256 ^8:=Xp (by decide) (by rw [Xj];omega)
       omega
      have B:=fun(t:TypeId) (p q:Operand)=>vG (E:=zB) (t:=t) (p:=p) (q:=q) (k:=.u64) (k':=.i64) (x:=l[k].toNat) (y:=8*k) rfl (by show _<=64;omega)
      simp only [pw,XR A]at B
      have C:=fun(t:TypeId) (p q:Operand)=>b_orN (E:=zB) (t:=t) (p:=p) (q:=q) (k:=.u64) (x:=bz (l.take k)) (y:=l[k].toNat*2 ^(8*k)) rfl O A
      simp only [wY hlt]at C
      simp only [BS,LB,ck,aF,cq,Nat.reduceLT,Nat.reduceEqDiff,F0m,z,o,c,r13,an,hlt,p7 Tryz.t9.1 hlt,K,N,B,C,w]
      exact J (k+1) _ _ (by omega) ⟨by omega,rfl,by simp [aa,z],by simp [aa],by simp [aa,c],by simp [aa]⟩
    . have u:k=l.length:=by omega
      subst u
      rw [Xr]at o
      simp only [BS,LB,ae,Nat.reduceLT,Nat.reduceEqDiff,o,c,r13,an,hlt]
      exact P
  . exact⟨Xe _,rfl,by simp [aa],by simp [aa,bz],by simp [aa],by simp [aa]⟩
 refine ab (n:=5) (rs:=[.tmp 2]) rfl Tryz.e171 rfl rfl rfl (lbt rfl) ?_
 simp only [BS,LB,Nat.reduceLT,Nat.reduceEqDiff]
 refine step_ret m ?_
 rintro r h ⟨rfl,P⟩
 simp only [BS,LB,ae,Nat.reduceLT,Nat.reduceEqDiff]
 exact P
theorem uh{M:Nat->Prop}{d hq:Hp}{L:List (Nat×Ob)}{G:List GL}(S:St M d hq L G){i e:Nat}{s:Bs}{a:Nat}{f:Value}{bad:Bool}(D:L[i]? =some (e,.row (rdC s a f) 1))(hf:RdF f bad)(F:a<=s.length)(H:s.length<=1000000):
 Ret zB 109 [ptrTo e] hq fun r b=>r=.int .i64 (la (bM s a bad 8).1)/\ ∃g,RdO d b f bad g (bM s a bad 8).2.2/\St M d b (L.set i (e,.row (rdC s (bM s a bad 8).2.1 g) 1)) G:=by
 have R:=S.ok
 have v:=kp (s:=s) (a:=a) (n:=8) (bad:=bad)
 have m:Ret zB 165 [ptrTo e,.int .i64 8] hq fun r b=>r=.int .i64 (la (bM s a bad 8).1)/\ ∃g,RdO d b f bad g (bM s a bad 8).2.2/\St M d b (L.set i (e,.row (rdC s (bM s a bad 8).2.1 g) 1)) G:=by
  refine ab (n:=28) (rs:=[.tmp 4]) rfl Tryz.e165 rfl rfl rfl (lbt rfl) ?_
  simp only [BS,LB,Nat.reduceLT,Nat.reduceEqDiff]
  refine step_ret (q9 (n:=8) S D hf F H (by decide)) ?_
  rintro r h ⟨rfl,P⟩
  generalize(bM s a bad 8).1=l at v
  have T:=jI l
  have I:256 ^l.length<=256 ^8:=Xp (by decide) v
  simp only [Nat.reducePow]at I
  simp only [BS,LB,Nat.reduceLT,Nat.reduceEqDiff,F07,fV]
  refine az (fun(k:Nat) j b=>k<=l.length/\b=h/\j 5=sv l/\j 6=.int .u64 (bz (l.take k):Nat)/\j 12=.int .i64 l.length/\j 13=.int .i64 k) (fun k=>l.length-k) ?_ 0 _ _ ?_
  . rintro k J j b ⟨U,rfl,z,o,c,r13⟩
    have w:am .i64 ((k:Int)+1)=((k+1:Nat):Int):=by rw [wrap64]<;>omega
    by_cases hlt:k<l.length
    . have V:=rW l[k]
      have K:=cC (k:=.u64) rfl (n:=l[k].toNat) (by simp only [pw];omega)
      have N:am .i64 (8*(k:Int))=((8*k:Nat):Int):=by rw [wrap64]<;>omega
      have A:l[k].toNat*2 ^(8*k)<18446744073709551616:=by
       have:k=0\/k=1\/k=2\/k=3\/k=4\/k=5\/k=6\/k=7:=by omega
       rcases this with rfl|rfl|rfl|rfl|rfl|rfl|rfl|rfl<;>simp only [Nat.reduceMul,Nat.reducePow]<;>omega
      have O:bz (l.take k)<18446744073709551616:=by
       have W:=jI (l.take k)
       have:256 ^(l.take k).length<=256 ^8:=Xp (by decide) (by rw [Xj];omega)
       omega
      have B:=fun(t:TypeId) (p q:Operand)=>vG (E:=zB) (t:=t) (p:=p) (q:=q) (k:=.u64) (k':=.i64) (x:=l[k].toNat) (y:=8*k) rfl (by show _<=64;omega)
      simp only [pw,XR A]at B
      have C:=fun(t:TypeId) (p q:Operand)=>b_orN (E:=zB) (t:=t) (p:=p) (q:=q) (k:=.u64) (x:=bz (l.take k)) (y:=l[k].toNat*2 ^(8*k)) rfl O A
      simp only [wY hlt]at C
      simp only [BS,LB,ck,aF,cq,Nat.reduceLT,Nat.reduceEqDiff,F07,z,o,c,r13,an,hlt,p7 Tryz.t9.1 hlt,K,N,B,C,w]
      exact J (k+1) _ _ (by omega) ⟨by omega,rfl,by simp [aa,z],by simp [aa],by simp [aa,c],by simp [aa]⟩
    . have u:k=l.length:=by omega
      subst u
      rw [Xr]at o
      have Q:am .i64 ((bz l:Nat):Int)=_:=wrap_i64 (by omega)
      simp only [BS,LB,ck,aF,cq,ae,Nat.reduceLT,Nat.reduceEqDiff,F07,o,c,r13,an,hlt,Q]
      exact⟨rfl,P⟩
  . exact⟨Xe _,rfl,by simp [aa],by simp [aa,bz],by simp [aa],by simp [aa]⟩
 refine ab (n:=5) (rs:=[.tmp 2]) rfl Tryz.e109 rfl rfl rfl (lbt rfl) ?_
 simp only [BS,LB,Nat.reduceLT,Nat.reduceEqDiff]
 refine step_ret m ?_
 rintro r h ⟨rfl,P⟩
 simp only [BS,LB,ae,Nat.reduceLT,Nat.reduceEqDiff]
 exact P
theorem AI{M:Nat->Prop}{b hq:Hp}{L:List (Nat×Ob)}{G:List GL}(S:St M b hq L G){i c:Nat}{s:Bs}{a n:Nat}{f:Value}{bad:Bool}(g:L[i]? =some (c,.row (rdC s a f) 1))(hf:RdF f bad)(j:a<=s.length)(k:s.length<=1000000)(l:n<=10000000):
 Ret zB 125 [ptrTo c,.int .i64 (n:Nat)] hq fun r d=>r=sv (bM s a bad n).1/\ ∃e,RdO b d f bad e (bM s a bad n).2.2/\St M b d (L.set i (c,.row (rdC s (bM s a bad n).2.1 e) 1)) G:=by
 have m:=S.ok
 refine ab (n:=8) (rs:=[.tmp 4]) rfl Tryz.e125 rfl rfl rfl (lbt rfl) ?_
 simp only [BS,LB,Nat.reduceLT,Nat.reduceEqDiff]
 refine step_ret (q9 S g hf j k l) ?_
 rintro r h ⟨rfl,P⟩
 simp only [BS,LB,ae,Nat.reduceLT,Nat.reduceEqDiff]
 exact P
theorem rAt_ok{b:Hp}(d:b.t.Sized b.n){c:Nat}{s:Bs}{a:Nat}{f:Value}(R:Row b c (rdC s a f) 1):bG zB 120 [ptrTo c] b (.int .i64 (a:Nat)):=by
 have S:=Si d
 refine ab (n:=9) (rs:=[.tmp 2]) rfl Tryz.e120 rfl rfl rfl (lbt rfl) ?_
 simp only [BS,LB,ae,Nat.reduceLT,Nat.reduceEqDiff,F16,R.load1 (o:=1) rfl]
 exact S.gr
theorem rLeft_ok{b:Hp}(d:b.t.Sized b.n){c:Nat}{s:Bs}{a:Nat}{f:Value}(R:Row b c (rdC s a f) 1)(g:a<=s.length)(h:s.length<=1000000):bG zB 124 [ptrTo c] b (.int .i64 (s.length-a:Nat)):=by
 have S:=Si d
 have e:am .i64 ((s.length:Int)-(a:Int))=((s.length-a:Nat):Int):=by rw [wrap64]<;>omega
 refine ab (n:=15) (rs:=[.tmp 2]) rfl Tryz.e124 rfl rfl rfl (lbt rfl) ?_
 simp only [BS,LB,Nat.reduceLT,Nat.reduceEqDiff,F0n]
 refine au (ax rfl) (q:=0) (ps:=[]) (by kernel_rfl) ?_
 simp only [BS,LB,cls,ae,Nat.reduceLT,Nat.reduceEqDiff,Nat.reduceAdd,Nat.reducePow,Nat.reduceDiv,Nat.reduceMod,Nat.reduceLeDiff,F0n,R.load1 (o:=0) rfl,R.load1 (o:=1) rfl,fV,e]
 exact S.gr
def Tryz.FS:=aj t1<|aj t2<|aj t3<|aj t4<|aj t5<|aj t6<|aj Z0<|aj Z2<|aj t9<|aj t10<|aj t11<|aj t58<|aj t243<|t301
def Tryz.F17:=aj t1<|aj t2<|aj t58<|aj t88<|t301
def Tryz.FG:=aj t1<|aj t2<|aj t3<|aj t4<|aj t5<|aj t6<|aj Z0<|aj Z2<|aj t9<|aj t58<|aj t243<|t301
def iY(i:Nat):List Value:=(zM 16).map fun j=>.int .u32 ((if j<i then dD 4 j else 0:Nat):Int)
theorem jo(i:Nat):(iY i).length=16:=by simp [iY]
theorem halfC_set{i:Nat}:(iY i).set i (.int .u32 ((dD 4 i:Nat):Int))=iY (i+1):=by
 unfold iY
 have:=kA (N:=16) (k:=i) (F:=fun j=>Value.int .u32 ((if j<i then dD 4 j else 0:Nat):Int)) (F':=fun j=>Value.int .u32 ((if j<i+1 then dD 4 j else 0:Nat):Int)) (fun j _ a=>by
  by_cases h:j<i
  . rw [if_pos h,if_pos (by omega)]
  . rw [if_neg h,if_neg (by omega)])
 rw [<-this,if_pos (by omega)]
theorem halfC_at{j:Nat}(h:j<16):(iY 16)[j]? =some (.int .u32 ((dD 4 j:Nat):Int)):=by
 unfold iY
 rw [mS (F:=fun j=>Value.int .u32 ((if j<16 then dD 4 j else 0:Nat):Int)) h,if_pos h]
theorem step_and{r:Nat}(h:r<4294967296): ∃m:Nat,m<4294967296/\unP .neg (.int .u32 ((r&&& 1:Nat):Int))=some (.int .u32 (m:Int))/\(r>>>1) ^^^(3988292384&&& m)=kR r:=by
 have e:r&&& 1=r%2:=Nat.and_one_is_mod r
 rcases Nat.mod_two_eq_zero_or_one r with a|a
 . refine⟨0,by decide,by rw [e,a];rfl,?_⟩
   unfold kR;rw [a];simp
 . refine⟨4294967295,by decide,by rw [e,a];rfl,?_⟩
   unfold kR;rw [a];rfl
theorem b_and1{E:Env}{t:TypeId}{p q:Operand}{x:Nat}(h:x<4294967296):a9 E .and t p q (.int .u32 (x:Int)) (.int .u32 1)=some (.int .u32 ((x&&& 1:Nat):Int)):=s8 (k:=.u32) (y:=1) rfl h (by decide)
theorem b_andT{E:Env}{t:TypeId}{p q:Operand}{x:Nat}(h:x<4294967296):a9 E .and t p q (.int .u32 3988292384) (.int .u32 (x:Int))=some (.int .u32 ((3988292384&&& x:Nat):Int)):=s8 (k:=.u32) (x:=3988292384) rfl (by decide) h
theorem b_and15{E:Env}{t:TypeId}{p q:Operand}{x:Nat}(h:x<4294967296):a9 E .and t p q (.int .u32 (x:Int)) (.int .u32 15)=some (.int .u32 ((x%16:Nat):Int)):=by
 have:=s8 (E:=E) (t:=t) (p:=p) (q:=q) (k:=.u32) (x:=x) (y:=15) rfl h (by decide)
 rw [show x&&& 15=x%16 from Nat.and_two_pow_sub_one_eq_mod (n:=4) x]at this
 exact this
theorem b_shr1U{E:Env}{t:TypeId}{p q:Operand}{x:Nat}:a9 E .shr t p q (.int .u32 (x:Int)) (.int .u64 1)=some (.int .u32 ((x>>>1:Nat):Int)):=xm (k:=.u32) (k':=.u64) (y:=1) (by decide)
theorem lay_all{l m:List Value}(h:l.length=m.length):lay l 0 m=m:=by simp [lay,h]
theorem wA(i:Nat):(iY i).all iL=true:=by simp [iY,iL]
theorem halves_ok{r:Hp}(F:r.t.Sized r.n):bG zB 209 [] r (.agg ⟨iY 16⟩):=by
 have S:=Si F
 refine ab (n:=23) (rs:=[.cell 0 301]) rfl Tryz.e209 rfl rfl rfl (lbt rfl) ?_
 simp only [BS,FS]
 refine ag av S ?_;clear S;intro h j S u
 have v:[Value.int .u32 0,.int .u32 0,.int .u32 0,.int .u32 0,.int .u32 0,.int .u32 0,.int .u32 0,.int .u32 0,.int .u32 0,.int .u32 0,.int .u32 0,.int .u32 0,.int .u32 0,.int .u32 0,.int .u32 0,.int .u32 0]=iY 0:=rfl
 rw [v]at S
 simp only [BS]
 refine az (fun(i:Nat) c h=>i<=16/\St NoM r h [(j,.row (iY i) 1)] []/\c 0=ptrTo j/\c 3=.int .i64 i) (fun i=>16-i) ?_ 0 _ _ ?_
 . clear S v
   intro i G c h ⟨hi,S,d,f⟩
   have w:am .i64 ((i:Int)+1)=((i+1:Nat):Int):=by rw [wrap64]<;>omega
   by_cases hlt:i<16
   . have g:(i:Int)<16:=by omega
     have H:=cC (k:=.u32) rfl (n:=i) (by simp only [pw];omega)
     simp only [BS,LB,ck,aF,cq,Nat.reduceLT,Nat.reduceEqDiff,FS,f,g,H]
     refine az (fun(k:Nat) c z=>k<=4/\z=h/\c 0=ptrTo j/\c 1=.int .i64 i/\c 2=.int .u32 (dD k i:Nat)/\c 3=.int .i64 i/\c 8=.int .i64 k) (fun k=>4-k) ?_ 0 _ _ ?_
     . clear d f
       rintro k s c z ⟨P,rfl,d,A,B,f,r8⟩
       have I:am .i64 ((k:Int)+1)=((k+1:Nat):Int):=by rw [wrap64]<;>omega
       by_cases J:k<4
       . have l:(k:Int)<4:=by omega
         have C:dD k i<4294967296:=xS (by omega)
         obtain⟨m,K,L,M⟩:=step_and C
         have N:=fun(t:TypeId) (p q:Operand)=>b_andT (E:=zB) (t:=t) (p:=p) (q:=q) K
         have O:(dD k i)>>>1<4294967296:=by rw [Xt];omega
         have D:=fun(t:TypeId) (p q:Operand)=>we (E:=zB) (t:=t) (p:=p) (q:=q) (k:=.u32) (x:=(dD k i)>>>1) (y:=3988292384&&& m) rfl O (Nat.lt_of_le_of_lt Nat.and_le_left (by decide))
         rw [M,<-crcN_succ]at D
         simp only [BS,LB,Nat.reduceLT,Nat.reduceEqDiff,B,r8,l,b_shr1U,b_and1 C,L,N,D,I]
         exact s (k+1) _ _ (by omega) ⟨by omega,rfl,by simp [aa,d],by simp [aa,A],by simp [aa],by simp [aa,f],by simp [aa]⟩
       . have:k=4:=by omega
         subst this
         simp only [BS,LB,Nat.reduceLT,Nat.reduceEqDiff,Int.reduceLT,Xg,FS,d,A,B,f,r8,nG (n:=16) hlt]
         refine aw (ar S (i:=0) rfl Tryz.t58.2.2.1 cg (by rw [jo];exact hlt) ono) ?_
         clear S;rintro h ⟨S,_⟩
         simp only [LC,halfC_set]at S
         simp only [BS,LB,Nat.reduceLT,Nat.reduceEqDiff,f,w]
         exact G (i+1) _ _ (by omega) ⟨by omega,S,by simp [aa,d],by simp [aa]⟩
     . exact⟨Xe _,rfl,by simp [aa,d],by simp [aa],by simp [aa,dD],by simp [aa,f],by simp [aa]⟩
   . have g: ¬(i:Int)<16:=by omega
     have:i=16:=by omega
     subst this
     have a:=S.lds (b:=j) (o:=0) (n:=16) m0 (by rw [jo];decide)
     rw [Xd,Xz (by rw [jo];decide)]at a
     simp only [BS,LB,Nat.reduceLT,Nat.reduceEqDiff,Int.reduceLT,Xg,FS,d,f,a]
     refine aw (S.store (i:=0) rfl Tryz.t301.2.2.1 (by intro x e;cases e) (jo 16) (wA 16) (Nat.le_of_eq (by show 0+(iY 16).length=_;rw [Xk])) ono) ?_
     clear S;rintro h ⟨S,_⟩
     simp only [LC,ah]at S
     rw [lay_all rfl]at S
     have a:=S.lds (b:=j) (o:=0) (n:=16) m0 (by rw [jo];decide)
     rw [Xd,Xz (by rw [jo];decide)]at a
     simp only [BS,ae]
     exact(gf (by decide) (by simp only [aT,d,ac,Nat.reduceEqDiff,reduceIte];exact gu Tryz.t301.2.1 Tryz.t301.2.2.1 a)).2 (ib.2 ⟨rfl,S.gr⟩)
 . exact⟨Xe _,S,by simp [aa,ac],by simp [aa]⟩
theorem taker_ok{b:Hp}(k:b.t.Sized b.n){r:Nat}:Ret zB 163 [.int .u32 (r:Nat)] b fun v f=>Gr b f/\ ∃a c,v=.func (.func 210) #[] #[ptrTo a,ptrTo c]/\b.n<=a/\a≠c/\Row f a [.int .u32 (r:Nat)] 1/\Row f c (iY 16) 1:=by
 have S:=Si k
 refine ab (n:=6) (rs:=[.tmp 2]) rfl Tryz.e163 rfl rfl rfl (lbt rfl) ?_
 simp only [BS,Nat.reduceLT]
 refine ag (bU (by intro x e;cases e)) S ?_;clear S;intro h a S d;simp only [ah]at S
 simp only [BS,LB]
 refine al (halves_ok S.ok) ?_;intro h g;replace S:=S.call g;clear g
 simp only [BS,F17]
 refine ag av S ?_;clear S;intro h c S j
 simp only [BS,LB,Nat.reduceLT,Nat.reduceEqDiff]
 refine aw (S.store (i:=0) rfl Tryz.t301.2.2.1 (by intro x e;cases e) (jo 16) (wA 16) (lbt rfl) ono) ?_
 clear S;rintro h ⟨S,_⟩
 simp only [LC,ah]at S
 rw [lay_all (m:=iY 16) (by rw [jo];rfl)]at S
 have l:=S.apart
 simp only [BS,LB,ae,Nat.reduceLT,Nat.reduceEqDiff]
 exact⟨S.gr,a,c,rfl,d,fun e=>by subst e;simp [keys]at l,S.row m1,S.row m0⟩
theorem taker1_ok{g:Hp}(N:g.t.Sized g.n){a s r:Nat}{l:Bs}(O:r<4294967296)(X:l.length<=1000000)(P:Row g a [.int .u32 (r:Nat)] 1)(Q:Row g s (iY 16) 1)(B:a≠s):
 Ret zB 210 [sv l,ptrTo a,ptrTo s] g fun v R=>v=.int .u32 (crcL r l:Nat)/\Mo (· =a) g R:=by
 have S:=St.init1 N (o:=.row [.int .u32 (r:Nat)] 1) P
 have J: ∀{h} (f:Mo (· =a) g h) {j:Nat},j<16->h.load s j 1=some [.int .u32 ((dD 4 j:Nat):Int)]:=fun f j T=>(f.has (o:=.row _ 1) Q (fun e=>B e.symm):Row _ s _ 1).load1 (halfC_at T)
 refine ab (n:=33) (rs:=[.tmp 4]) rfl Tryz.e210 rfl rfl rfl (lbt rfl) ?_
 simp only [BS,LB,Nat.reduceLT,Nat.reduceEqDiff,FG,fV]
 refine az (fun(k:Nat) u h=>k<=l.length/\St (· =a) g h [(a,.row [.int .u32 (crcL r (l.take k):Nat)] 1)] []/\u 0=sv l/\u 1=ptrTo a/\u 2=ptrTo s/\u 7=.int .i64 l.length/\u 8=.int .i64 k) (fun k=>l.length-k) ?_ 0 _ _ ?_
 . clear S
   intro k U u h ⟨hk,S,r0,r1,r2,r7,r8⟩
   have w:am .i64 ((k:Int)+1)=((k+1:Nat):Int):=by rw [wrap64]<;>omega
   by_cases hlt:k<l.length
   . have Y:=rW l[k]
     have V:=cC (k:=.u32) rfl (n:=l[k].toNat) (by simp only [pw];omega)
     have A:crcL r (l.take (k+1))=crcB (crcL r (l.take k)) l[k].toNat:=by rw [Xf hlt,BF];rfl
     have C:=xz (l:=l.take k) O
     generalize crcL r (l.take k)=c at S A C
     have D:c ^^^l[k].toNat<4294967296:=Nat.xor_lt_two_pow (n:=32) C (by omega)
     have K:=fun(t:TypeId) (p q:Operand)=>we (E:=zB) (t:=t) (p:=p) (q:=q) (k:=.u32) (x:=c) (y:=l[k].toNat) rfl C (by simp only [pw];omega)
     have m: ∀{z:Nat},z<4294967296->z>>>4<4294967296/\dD 4 (z%16)<4294967296/\(z>>>4) ^^^dD 4 (z%16)<4294967296:=fun {z} Z=>by
      have L:z>>>4<4294967296:=by rw [Xt];omega
      have M:dD 4 (z%16)<4294967296:=xS (by omega)
      exact⟨L,M,Nat.xor_lt_two_pow (n:=32) L M⟩
     rw [Bj]at A
     generalize c ^^^l[k].toNat=z at D K A
     obtain⟨F,G,H⟩:=m D
     have I:=fun(t:TypeId) (p q:Operand)=>we (E:=zB) (t:=t) (p:=p) (q:=q) (k:=.u32) rfl F G
     have d:=Nat.mod_lt z (show 16>0 by decide)
     simp only [BS,LB,Nat.reduceLT,Nat.reduceEqDiff,r7,r8,an,hlt]
     refine au (ax rfl) (q:=0) (ps:=[]) (by kernel_rfl) ?_
     simp only [BS,LB,ck,aF,cq,cls,Nat.reduceLT,Nat.reduceEqDiff,Nat.reduceAdd,Nat.reducePow,Nat.reduceDiv,Nat.reduceMod,Nat.reduceLeDiff,FG,r0,r1,p7 Tryz.t9.1 hlt,V,K,S.ld (b:=a) (o:=0) m0 rfl]
     refine d9 (ar S (i:=0) rfl Tryz.t58.2.2.1 cg (Xb (lbt rfl)) ono) ?_
     clear S;rintro h ⟨S,_⟩
     simp only [LC]at S
     simp only [BS,LB,Nat.reduceAdd]
     refine au (ax rfl) (q:=0) (ps:=[]) (by kernel_rfl) ?_
     simp only [BS,LB,cls,Nat.reduceLT,Nat.reduceEqDiff,Nat.reduceAdd,Nat.reducePow,Nat.reduceDiv,Nat.reduceMod,Nat.reduceLeDiff,FG,r1,r2,b_shr4 (k:=.u32) (by decide),b_and15 D,nG (n:=16) d,J S.fr d,I,S.ld (b:=a) (o:=0) m0 rfl]
     refine d9 (ar S (i:=0) rfl Tryz.t58.2.2.1 cg (Xb (lbt rfl)) ono) ?_
     clear S;rintro h ⟨S,_⟩
     simp only [LC]at S
     simp only [BS,LB,Nat.reduceAdd]
     generalize(z>>>4) ^^^dD 4 (z%16)=W at S A H
     obtain⟨F,G,_⟩:=m H
     have I:=fun(t:TypeId) (p q:Operand)=>we (E:=zB) (t:=t) (p:=p) (q:=q) (k:=.u32) rfl F G
     have d:=Nat.mod_lt W (show 16>0 by decide)
     refine au (ax rfl) (q:=0) (ps:=[]) (by kernel_rfl) ?_
     simp only [BS,LB,cls,Nat.reduceLT,Nat.reduceEqDiff,Nat.reduceAdd,Nat.reducePow,Nat.reduceDiv,Nat.reduceMod,Nat.reduceLeDiff,FG,r1,r2,b_shr4 (k:=.u32) (by decide),b_and15 H,nG (n:=16) d,J S.fr d,I,S.ld (b:=a) (o:=0) m0 rfl]
     refine d9 (ar S (i:=0) rfl Tryz.t58.2.2.1 cg (Xb (lbt rfl)) ono) ?_
     clear S;rintro h ⟨S,_⟩
     simp only [LC]at S
     rw [<-A]at S
     simp only [BS,LB,Nat.reduceLT,Nat.reduceEqDiff,Nat.reduceAdd,r8,w]
     exact U (k+1) _ _ (by omega) ⟨by omega,S,by simp [aa,r0],by simp [aa,r1],by simp [aa,r2],by simp [aa,r7],by simp [aa]⟩
   . have:k=l.length:=by omega
     subst this
     rw [Xr]at S
     simp only [BS,LB,ae,Nat.reduceLT,Nat.reduceEqDiff,FG,r1,r7,r8,an,hlt,S.ld (b:=a) (o:=0) m0 rfl]
     exact S.fr
 . exact⟨Xe _,S,by simp [aa,aG],by simp [aa,aG,bK,ac],by simp [aa,aG,bK,ac],by simp [aa],by simp [aa]⟩
theorem xd{a:Hp}(d:a.t.Sized a.n){l:Bs}(i:l.length<=1000000):bG zB 44 [sv l] a (.int .u32 (crc l:Nat)):=by
 have b:bG zB 104 [.int .u32 0,sv l] a (.int .u32 (crc l:Nat)):=by
  have S:=Si d
  have j:unP .xor (.int .u32 0)=some (.int .u32 ((4294967295:Nat):Int)):=rfl
  have m:=u_xorU (k:=.u32) rfl (xz (l:=l) (r:=4294967295) (by decide))
  refine ab (n:=11) (rs:=[.tmp 4]) rfl Tryz.e104 rfl rfl rfl (lbt rfl) ?_
  simp only [BS,LB,Nat.reduceLT,Nat.reduceEqDiff,Xg,j]
  refine step_ret (taker_ok (r:=4294967295) S.ok) ?_;intro v h ⟨g,b1,b3,e,n1,hne,R1,R3⟩;replace S:=S.call g;clear g
  subst e
  simp only [BS,LB,Nat.reduceLT,Nat.reduceEqDiff]
  refine step_ret (taker1_ok S.ok (by decide) i R1 R3 hne) ?_
  rintro v h ⟨rfl,f⟩
  have o:Gr a h:=(S.fr.trans f (fun c p=>.inr (by subst p;exact n1)):Mo NoM a h).gr
  simp only [BS,LB,ae,Nat.reduceLT,Nat.reduceEqDiff,m]
  exact⟨rfl,o⟩
 have S:=Si d
 refine ab (n:=5) (rs:=[.tmp 2]) rfl Tryz.e44 rfl rfl rfl (lbt rfl) ?_
 simp only [BS,LB,Nat.reduceLT,Nat.reduceEqDiff]
 refine al (b) ?_;intro h g;replace S:=S.call g;clear g
 simp only [BS,LB,ae,Nat.reduceLT,Nat.reduceEqDiff]
 exact S.gr
theorem b_andB{E:Env}{t:TypeId}{p q:Operand}{x:Nat}(h:x<256):a9 E .and t p q (.int .u8 (x:Int)) (.int .u8 1)=some (.int .u8 ((x%2:Nat):Int)):=by
 have:=s8 (E:=E) (t:=t) (p:=p) (q:=q) (k:=.u8) (x:=x) (y:=1) rfl h (by decide)
 rw [show x&&& 1=x%2 from Nat.and_one_is_mod x]at this
 exact this

def Tryz.Fo:=aj t1<|aj t2<|aj t3<|aj t4<|aj t5<|aj t6<|aj Z0<|aj Z2<|aj t9<|aj t10<|aj t11<|aj t12<|aj Z6<|aj Z10<|aj t15<|aj t16<|aj t17<|aj t22<|aj t29<|aj t33<|aj Z11<|aj t58<|aj t85<|aj t97<|aj t157<|aj Z13<|aj t178<|aj t180<|aj t268<|aj Z15<|aj t355<|aj t357<|aj t359<|aj t360<|aj t361<|aj t362<|Z18
def encS(x:Sec):List Value:=[.int .i64 (x.1:Nat),sv x.2]
theorem dk(x:Sec):(encS x).length=2:=rfl
theorem gD{n:Nat}(h:n<18446744073709551616):u64 (n:Int)=n:=by unfold u64;omega
def pk(l:List Sec)(n:Nat):Bs:=eG++(aR 1 n++l.flatMap kB)
theorem encode_ok{t:Hp}(O:t.t.Sized t.n){v:Value}{l:List Sec}(D:ay t 2 encS v l)(hl:l.length<=16)(P: ∀x∈l,x.1<256)(hb:(l.flatMap XU).length<=100000):
 Ret zB 14 [v] t fun r Q=>Gr t Q/\r=.tuple #[sv (oX l),.int .i64 0]:=by
 have S:=Si O
 have R: ¬((16:Int)<(l.length:Int)):=by omega
 refine ab (n:=70) (rs:=[.tmp 2,.tmp 3]) rfl Tryz.e14 rfl rfl rfl (lbt rfl) ?_
 simp only [BS,LB,Nat.reduceLT,Nat.reduceEqDiff,Fo,D.lenq,R]
 refine step_ret (oK S) ?_
 rintro v1 h ⟨E,rfl,S⟩
 simp only [BS,LB]
 refine step_ret (oK S) ?_
 rintro v2 h ⟨H,rfl,S⟩
 simp only [BS,LB,Nat.reduceLT,Nat.reduceEqDiff]
 refine step_ret (zS (l:=[]) (m:=eG) S (i:=1) (j:=1) rfl rfl (by decide)) ?_
 rintro _ h ⟨q,S⟩
 simp only [LC]at S
 have T:=cC (k:=.u8) rfl (n:=l.length) (by simp only [pw];omega)
 simp only [BS,LB,ck,aF,cq,Nat.reduceLT,Nat.reduceEqDiff,Fo,D.lenq,T]
 refine ag (bj (by exact Tryz.t22.1) (by exact XT) (by decide) (by rfl)) S ?_;clear S;intro h F S d;simp only [LC,aU,bA,ah,Nat.reduceMul,Nat.reduceAdd,XB,Xk,Xi,XF]at S
 obtain⟨S,f,p⟩:=S.bsl (kd:=.u8) (xs:=[(l.length:Int)])
 simp only [BS,LB,Nat.reduceLT,Nat.reduceEqDiff]
 refine step_ret (xc S (i:=1) (j:=1) rfl rfl f p (by simp [eG])) ?_
 rintro _ h ⟨q,S⟩
 simp only [LC,Xh,Xm]at S
 rw [gD (by omega),show eG++aR 1 l.length=pk (l.take 0) l.length by simp [pk]]at S
 simp only [BS,LB,Nat.reduceLT,Nat.reduceEqDiff,Fo,D.lenq]
 refine az (fun(k:Nat) u h=>k<=l.length/\ ∃q z,St NoM t h [(H,.row [z] 1),(E,.row [q] 1)] [(z,1,aY ((l.take k).flatMap XU)),(q,1,aY (pk (l.take k) l.length))]/\u 4=ptrTo E/\u 5=ptrTo H/\u 21=v/\u 22=.int .i64 l.length/\u 23=.int .i64 k) (fun k=>l.length-k) ?_ 0 _ _ ?_
 . clear S f p
   intro k U u h ⟨hkl,q,z,S,r4,r5,r21,r22,r23⟩
   have w:am .i64 ((k:Int)+1)=((k+1:Nat):Int):=by rw [wrap64]<;>omega
   by_cases hlt:k<l.length
   . obtain⟨c,o,A,B⟩:=(D.gr S.gr).ix (kd:=.i64) dk hlt
     have C:=P l[k] (XQ hlt)
     have I:l.take (k+1)=l.take k++[l[k]]:=Xf hlt
     have G:((l.take (k+1)).flatMap XU).length<=(l.flatMap XU).length:=by
      conv=>rhs;rw [<-List.take_append_drop (k+1) l,Xn,Xa]
      omega
     rw [I,Xn,Xa]at G
     simp only [Xh,Xm,Xq]at G
     have lh:(pk (l.take k) l.length).length<=300:=by
      have:(l.take k).length<=16:=by rw [Xj];omega
      simp only [pk,Xa,aJ,yG,eG,Xv,XI];omega
     have J:pk (l.take (k+1)) l.length=pk (l.take k) l.length++kB l[k]:=by
      unfold pk;rw [I,Xn];simp
     have K:(l.take (k+1)).flatMap XU=(l.take k).flatMap XU++l[k].2:=by rw [I,Xn];simp
     generalize l[k]=x at B C J K G
     obtain⟨y,a⟩:=x
     simp only []at C J K G
     have V: ¬((y:Int)<0):=by omega
     have W: ¬((255:Int)<(y:Int)):=by omega
     have X:=cC (k:=.u8) rfl (n:=y) (by simp only [pw];omega)
     have Y:=cC (k:=.u64) rfl (n:=a.length) (by simp only [pw];omega)
     simp only [BS,LB,Nat.reduceLT,Nat.reduceEqDiff,Fo,r21,r22,r23,an,hlt,A,B,encS]
     refine ag av S ?_;clear S;intro h s S M
     simp only [BS,LB,Nat.reduceLT,Nat.reduceEqDiff]
     refine aw (S.store (i:=0) rfl ?_ ?_ rfl rfl ?_ ono) ?_
     . exact(by exact Tryz.t13.2.1)
     . exact(by intro x e;cases e)
     . exact lbt rfl
     clear S;rintro h ⟨S,Z⟩;clear Z;simp only [LC,ah,lay,Xx,Xy,Nat.reduceAdd]at S
     simp only [BS,LB,ck,aF,cq,Nat.reduceLT,Nat.reduceEqDiff,Fo,r4,V,W,X,S.ld (b:=s) (o:=0) m0 rfl,S.ld (b:=s) (o:=1) m0 rfl]
     refine ag (bj (by exact Tryz.t22.1) (by exact XT) (by decide) (by rfl)) S ?_;clear S;intro h F S d;simp only [LC,aU,bA,ah,Nat.reduceMul,Nat.reduceAdd,XB,Xk,Xi,XF]at S
     obtain⟨S,f,p⟩:=S.bsl (kd:=.u8) (xs:=[(y:Int)])
     simp only [BS,LB,Nat.reduceLT,Nat.reduceEqDiff]
     refine step_ret (xc S (i:=2) (j:=1) rfl rfl f p (by simp;omega)) ?_
     clear f p S;rintro _ h ⟨q,S⟩
     simp only [LC,Xh,Xm]at S
     rw [gD (by omega)]at S
     simp only [BS,LB,ck,aF,cq,Nat.reduceLT,Nat.reduceEqDiff,Fo,r4,fV,Y,S.ld (b:=s) (o:=0) m0 rfl,S.ld (b:=s) (o:=1) m0 rfl]
     refine ag (bj (by exact Tryz.t178.1) (by exact Tryz.e85E) (by decide) (by rfl)) S ?_;clear S;intro h F S d;simp only [LC,aU,bA,ah,Nat.reduceMul,Nat.reduceAdd,XB,Xk,Xi,XF]at S
     obtain⟨S,f,p⟩:=S.bsl (kd:=.u64) (xs:=[(a.length:Int)])
     simp only [BS,LB,Nat.reduceLT,Nat.reduceEqDiff]
     refine step_ret (wU64_ok S (i:=2) (j:=1) rfl rfl f p (fun x N=>by simp only [List.mem_singleton]at N;rw [N,gD (by omega)]) (by simp [aJ];omega)) ?_
     clear f p S;rintro _ h ⟨q,S⟩
     simp only [LC,Xh,Xm]at S
     rw [gD (by omega)]at S
     have cl:=v7 a
     simp only [BS,LB,Nat.reduceLT,Nat.reduceEqDiff,Fo,r4,S.ld (b:=s) (o:=0) m0 rfl,S.ld (b:=s) (o:=1) m0 rfl]
     refine al (xd S.ok (l:=a) (by omega)) ?_;intro h g;replace S:=S.call g;clear g
     simp only [BS,LB,Nat.reduceLT,Nat.reduceEqDiff]
     refine ag (bj (by exact Tryz.t180.1) (by exact Tryz.e58E) (by decide) (by rfl)) S ?_;clear S;intro h F S d;simp only [LC,aU,bA,ah,Nat.reduceMul,Nat.reduceAdd,XB,Xk,Xi,XF]at S
     obtain⟨S,f,p⟩:=S.bsl (kd:=.u32) (xs:=[((crc a:Nat):Int)])
     simp only [BS,LB,Nat.reduceLT,Nat.reduceEqDiff]
     refine step_ret (rf S (i:=2) (j:=1) rfl rfl f p (by simp [aJ];omega)) ?_
     clear f p S;rintro _ h ⟨q,S⟩
     simp only [LC,Xh,Xm]at S
     rw [gD (by omega),Xs,Xs,show aR 1 y++(aR 8 a.length++aR 4 (crc a))=kB (y,a)from rfl,<-J]at S
     simp only [BS,LB,Nat.reduceLT,Nat.reduceEqDiff,Fo,r5,S.ld (b:=s) (o:=0) m0 rfl,S.ld (b:=s) (o:=1) m0 rfl]
     refine step_ret (zS (m:=a) S (i:=1) (j:=0) rfl rfl (by omega)) ?_
     clear S;rintro _ h ⟨z,S⟩
     simp only [LC]at S
     rw [<-K]at S
     simp only [BS,LB,Nat.reduceLT,Nat.reduceEqDiff,r23,w]
     exact U (k+1) _ _ (by omega) ⟨by omega,q,z,S.drop1,by simp [aa,r4],by simp [aa,r5],by simp [aa,r21],by simp [aa,r22],by simp [aa]⟩
   . have:k=l.length:=by omega
     subst this
     rw [Xr]at S
     have hh:pk l l.length=d6 l:=rfl
     rw [hh]at S
     have cl:=v7 (d6 l)
     have L:=oD l
     have g4:=(S.gown _ m1).1
     simp only [BS,LB,Nat.reduceLT,Nat.reduceEqDiff,r4,r22,r23,an,hlt]
     refine al (kE S.ok (S.ld (b:=E) (o:=0) m1 rfl) g4) ?_;intro h g;replace S:=S.call g;clear g
     simp only [BS,LB,Nat.reduceLT,Nat.reduceEqDiff]
     refine al (xd S.ok (l:=d6 l) (by omega)) ?_;intro h g;replace S:=S.call g;clear g
     simp only [BS,LB,Nat.reduceLT,Nat.reduceEqDiff]
     refine ag (bj (by exact Tryz.t180.1) (by exact Tryz.e58E) (by decide) (by rfl)) S ?_;clear S;intro h F S d;simp only [LC,aU,bA,ah,Nat.reduceMul,Nat.reduceAdd,XB,Xk,Xi,XF]at S
     obtain⟨S,f,p⟩:=S.bsl (kd:=.u32) (xs:=[((crc (d6 l):Nat):Int)])
     simp only [BS,LB,Nat.reduceLT,Nat.reduceEqDiff]
     refine step_ret (rf S (i:=1) (j:=1) rfl rfl f p (by simp;omega)) ?_
     clear f p g4 S;rintro _ h ⟨q,S⟩
     simp only [LC,Xh,Xm]at S
     rw [gD (by omega)]at S
     have g4:=(S.gown _ m1).1
     simp only [BS,LB,Nat.reduceLT,Nat.reduceEqDiff,r4]
     refine al (kE S.ok (S.ld (b:=E) (o:=0) m1 rfl) g4) ?_;intro h g;replace S:=S.call g;clear g
     have g5:=(S.gown _ m0).1
     simp only [BS,LB,Nat.reduceLT,Nat.reduceEqDiff,r5]
     refine al (kE S.ok (S.ld (b:=H) (o:=0) m0 rfl) g5) ?_;intro h g;replace S:=S.call g;clear g
     simp only [BS,LB,ae,Nat.reduceLT,Nat.reduceEqDiff,b_add_sv (l:=d6 l++aR 4 (crc (d6 l))) (m:=l.flatMap XU) (by rw [Xa,aJ,L];omega)]
     exact⟨S.gr,by unfold oX;rw [Xs]⟩
 . exact⟨Xe _,_,_,S,by simp [aa,ac],by simp [aa,ac],by simp [aa],by simp [aa],by simp [aa]⟩
end Go.Ab
end
section
namespace Go.Ab
theorem pU{l:Bs}{k:Nat}(h:l.length<=k):bz l<256 ^k:=Nat.lt_of_lt_of_le (jI l) (Xp (by decide) h)
def dE(s:Bs)(j:Nat):Ent:=(bz ((s.drop (7+13*j)).take 1),bz ((s.drop (8+13*j)).take 8),bz ((s.drop (16+13*j)).take 4))
theorem BK(n:Nat): ∀(s:Bs) (m:Nat),qF n (s.drop (7+13*m))=(zM n).map fun j=>dE s (m+j):=by
 induction n with
 |zero=>intro s m;rfl
 | succ n a=>
   intro s m
   rw [qF,XN,show 7+13*m+13=7+13*(m+1) by omega,a,List.range_succ_eq_map,List.map_cons,List.map_map]
   congr 1
   . unfold entD dE
     rw [XN,XN,show 7+13*m+1=8+13*m by omega,show 7+13*m+9=16+13*m by omega]
     rfl
   . refine XS fun j _=>?_
     show dE s (m+1+j)=dE s (m+(j+1))
     rw [Nat.add_assoc,X8 1 j]
def esF(s:Bs):List Ent:=(zM (aK s)).map (dE s)
theorem esF_eq(s:Bs):qF (aK s) (s.drop 7)=esF s:=by
 have:=BK (aK s) s 0
 simpa [esF]using this
theorem ru(s:Bs):(esF s).length=aK s:=by simp [esF]
theorem esF_at{s:Bs}{j:Nat}(h:j<aK s):(esF s)[j]? =some (dE s j):=by
 simp [esF,List.getElem?_map,h]
def ey(s:Bs)(k:Nat):Nat:=(((esF s).take k).map (·.2.1)).sum
theorem wG{s:Bs}{k:Nat}(h:k<aK s):ey s (k+1)=ey s k+(dE s k).2.1:=by
 unfold ey
 have a:k<(esF s).length:=by rw [ru];exact h
 have e:(esF s)[k]=dE s k:=by
  have:=esF_at h;rw [XC a]at this;exact Option.some.inj this
 rw [Xf a,List.map_append,List.sum_append,e]
 simp
theorem tt(s:Bs):ey s (aK s)=((esF s).map (·.2.1)).sum:=by
 unfold ey;rw [Xz (by rw [ru];omega)]
theorem BE(l:List Nat)(k:Nat):(l.take k).sum<=l.sum:=by
 induction l generalizing k with
 |nil=>simp
 | cons a l b=>
   cases k with
   |zero=>simp
   |succ k=>have:=b k;simp only [Xl,List.sum_cons];omega
theorem A1(s:Bs)(k:Nat):ey s k<=ey s (aK s):=by
 rw [tt];unfold ey;rw [List.map_take];exact BE _ _
theorem pV{s:Bs}(h:i9 s):s.take 6=eG/\aK s<=16/\11+13*aK s<=s.length/\bz ((s.drop (7+13*aK s)).take 4)=crc (s.take (7+13*aK s))/\ey s (aK s)=s.length-(11+13*aK s):=by
 obtain⟨a,_,c,d,e,f⟩:=h
 rw [esF_eq]at f
 exact⟨a,c,d,e,by rw [tt];exact f⟩
def jT(s:Bs)(k:Nat):Nat:=11+13*aK s+ey s k
theorem offF_le{s:Bs}(h:i9 s)(k:Nat):jT s k<=s.length:=by
 obtain⟨_,_,c,_,e⟩:=pV h
 have:=A1 s k
 unfold jT;omega
theorem yO{s:Bs}{k:Nat}(a:k<aK s):jT s (k+1)=jT s k+(dE s k).2.1:=by
 unfold jT;rw [wG a];omega
def gJ(s:Bs)(k:Nat):Sec:=((dE s k).1,(s.drop (jT s k)).take (dE s k).2.1)
def bodF(s:Bs):Option (List Sec):=mw (esF s) (s.drop (jT s 0))
theorem bodF_go{s:Bs}: ∀(n k:Nat),k+n=aK s->((∀j,k<=j->j<aK s->crc (gJ s j).2=(dE s j).2.2)->mw ((esF s).drop k) (s.drop (jT s k))=some ((List.range' k n).map (gJ s)))/\(∀j,k<=j->j<aK s->crc (gJ s j).2≠(dE s j).2.2->mw ((esF s).drop k) (s.drop (jT s k))=none):=by
 intro n
 induction n with
 | zero=>
   intro k m
   refine⟨fun _=>?_,fun j c b=>by omega⟩
   rw [XP (by rw [ru];omega)]
   rfl
 | succ n o=>
   intro k m
   have hlt:k<aK s:=by omega
   have d:k<(esF s).length:=by rw [ru];exact hlt
   have e:(esF s)[k]=dE s k:=by
    have:=esF_at hlt;rw [XC d]at this;exact Option.some.inj this
   rw [XW d,e]
   obtain⟨f,g⟩:=o (k+1) (by omega)
   rw [yO hlt]at f g
   have u: ∀l,mw (dE s k::l) (s.drop (jT s k))=if crc (gJ s k).2=(dE s k).2.2 then(mw l (s.drop (jT s k+(dE s k).2.1))).map (gJ s k:: ·)else none:=fun _=>by rw [<-XN];rfl
   rw [u]
   refine⟨fun h=>?_,fun j c b i=>?_⟩
   . rw [if_pos (h k (XE _) hlt),f (fun j c b=>h j (by omega) b),List.range'_succ];rfl
   . by_cases a:crc (gJ s k).2=(dE s k).2.2
     . rw [if_pos a,g j (by rcases Nat.lt_or_eq_of_le c with h|rfl;exact h;exact absurd a i) b i];rfl
     . rw [if_neg a]
theorem bodF_ok{s:Bs}(h: ∀j,j<aK s->crc (gJ s j).2=(dE s j).2.2):bodF s=some ((zM (aK s)).map (gJ s)):=by
 have:=bodF_go (s:=s) (aK s) 0 (Xk _)
 rw [Xd,<-List.range_eq_range']at this
 exact this.1 fun j _ a=>h j a
theorem bodF_no{s:Bs}{k:Nat}(a:k<aK s)(h:crc (gJ s k).2≠(dE s k).2.2):bodF s=none:=by
 have:=bodF_go (s:=s) (aK s) 0 (Xk _)
 rw [Xd]at this
 exact this.2 k (Xe _) a h
theorem yI{s:Bs}(h:i9 s):decF s=match bodF s with|some l=>.ok l|none=>.error true:=by
 unfold decF;rw [if_pos h,esF_eq,show bodF s=mw (esF s) (s.drop (11+13*aK s)) by unfold bodF jT ey;simp]
 cases mw (esF s) (s.drop (11+13*aK s))<;>rfl
end Go.Ab

end
section
namespace Go.Ab
open Go.Proofs
set_option maxRecDepth 10000
def Tryz.F18:=aj t1<|aj t4<|aj t20<|t29
def Tryz.F08:=aj t1<|aj t2<|aj t3<|aj t4<|aj t9<|aj t29<|aj t69<|aj t119<|aj Z17<|aj t128<|Z7
def Tryz.Fp:=aj t1<|aj t2<|aj t3<|aj t4<|aj t5<|aj t6<|aj t9<|aj t29<|aj t58<|aj t85<|aj t118<|aj t119<|aj t122<|aj r122<|aj t128<|aj Z7<|aj t199<|aj r199<|t249
theorem cV{s:Bs}{a n:Nat}(h:a+n<=s.length):bM s a false n=((s.drop a).take n,a+n,false):=by
 unfold bM;rw [if_neg];rintro(h|h);cases h;omega
theorem jk{s:Bs}{a n:Nat}{bad:Bool}(h:bad=true\/s.length<a+n):bM s a bad n=([],a,true):=by
 unfold bM;rw [if_pos h]
def tkS(s:Bs)(n:Nat)(p:Nat×Bool):Bs×Nat×Bool:=bM s p.1 p.2 n
def rdE(s:Bs)(p:Nat×Bool):Ent×(Nat×Bool):=((bz (tkS s 1 p).1,bz (tkS s 8 (tkS s 1 p).2).1,bz (tkS s 4 (tkS s 8 (tkS s 1 p).2).2).1),(tkS s 4 (tkS s 8 (tkS s 1 p).2).2).2)
def stE(s:Bs):Nat->Nat×Bool
 |0=>(bM s 6 false 1).2
 |k+1=>(rdE s (stE s k)).2
def enG(s:Bs)(k:Nat):Ent:=(rdE s (stE s k)).1
theorem enG_lt(s:Bs)(k:Nat):(enG s k).1<256/\(enG s k).2.1<18446744073709551616/\(enG s k).2.2<4294967296:=
 ⟨pU (k:=1) kp,pU (k:=8) kp,pU (k:=4) kp⟩
theorem stE_at{s:Bs}(h:6<=s.length)(k:Nat):(stE s k).1<=s.length:=by
 induction k with
 |zero=>exact mO h
 |succ k a=>exact mO (mO (mO a))
theorem many_tk(s:Bs):bz (bM s 6 false 1).1=aK s:=by
 by_cases h:6+1<=s.length
 . rw [cV h];rfl
 . rw [jk (.inr (by omega))];unfold aK;rw [XP (by omega)];rfl
theorem vP{s:Bs}: ∀k,7+13*k<=s.length->stE s k=(7+13*k,false):=by
 intro k
 induction k with
 |zero=>intro h;unfold stE;rw [cV (by omega)]
 | succ k a=>
   intro h
   rw [stE,a (by omega)]
   simp only [rdE,tkS]
   rw [cV (by omega),cV (by simp only [];omega),cV (by simp only [];omega)]
   simp only []
   rw [show 7+13*k+1+8+4=7+13*(k+1) by omega]
theorem enG_eq{s:Bs}{k:Nat}(h:7+13*(k+1)<=s.length):enG s k=dE s k:=by
 unfold enG
 rw [vP k (by omega)]
 simp only [rdE,tkS]
 rw [cV (by omega),cV (by simp only [];omega),cV (by simp only [];omega)]
 simp only [dE]
 rw [show 7+13*k+1=8+13*k by omega,show 8+13*k+8=16+13*k by omega]
theorem tk_bad{s:Bs}{a n:Nat}:(bM s a true n).2.2=true:=by rw [jk (.inl rfl)]
theorem stE_bad{s:Bs}: ∀k,s.length<7+13*k->(stE s k).2=true:=by
 intro k
 induction k with
 |zero=>intro h;unfold stE;rw [jk (.inr (by omega))]
 | succ k b=>
   intro h
   have a: ∀n (p:Nat×Bool),p.2=true->(tkS s n p).2.2=true:=fun n p c=>by unfold tkS;rw [c];exact tk_bad
   by_cases d:s.length<7+13*k
   . exact a _ _ (a _ _ (a _ _ (b d)))
   . rw [stE,vP k (by omega)]
     show(tkS s 4 (tkS s 8 (tkS s 1 (7+13*k,false)).2).2).2.2=true
     by_cases e:s.length<7+13*k+1
     . exact a _ _ (a _ _ (by unfold tkS;rw [jk (.inr e)]))
     . rw [show tkS s 1 (7+13*k,false)=_ from cV (by omega)]
       by_cases f:s.length<7+13*k+1+8
       . exact a _ _ (by unfold tkS;rw [jk (.inr f)])
       . rw [show tkS s 8 (7+13*k+1,false)=_ from cV (by omega)]
         unfold tkS;rw [jk (.inr (by simp only [];omega))]
theorem finE_bad{s:Bs}{n:Nat}(h:s.length<11+13*n):(bM s (stE s n).1 (stE s n).2 4).2.2=true:=by
 by_cases a:s.length<7+13*n
 . rw [stE_bad n a];exact tk_bad
 . rw [vP n (by omega),jk (.inr (by simp only [];omega))]
theorem nI{a:Hp}(b:a.t.Sized a.n){c:Nat}:bG zB 122 [.bool true,.int .i64 (c:Int)] a (.tuple #[]):=by
 have S:=Si b
 refine ab (n:=8) (rs:=[]) rfl Tryz.e122 rfl rfl rfl (lbt rfl) ?_
 simp only [BS,LB,ae,Nat.reduceLT,Nat.reduceEqDiff]
 exact S.gr
theorem k9{a:Hp}(b:a.t.Sized a.n){c:Nat}:dQ zB 122 [.bool false,.int .i64 (c:Int)] none a fun o d e=>o=.pan (.iface 29 (.int .i64 (c:Int)))/\d=none/\Gr a e:=by
 have S:=Si b
 refine enter (n:=8) (rs:=[]) rfl Tryz.e122 rfl rfl rfl (lbt rfl) ?_
 simp only [BS,LB,Nat.reduceLT,Nat.reduceEqDiff,F18]
 exact du (cL ⟨rfl,rfl,S.gr⟩)
theorem rErr_ok{b:Hp}(d:b.t.Sized b.n){c:Nat}{s:Bs}{a:Nat}(R:Row b c (rdC s a (.pointer none)) 1):bG zB 123 [ptrTo c] b .nilIface:=by
 have S:=Si d
 refine ab (n:=20) (rs:=[.tmp 2]) rfl Tryz.e123 rfl rfl rfl (lbt rfl) ?_
 simp only [BS,LB,ae,Nat.reduceLT,Nat.reduceEqDiff,F08,R.load1 (o:=2) rfl]
 exact S.gr
theorem rErrB_ok{b:Hp}(j:b.t.Sized b.n){c d:Nat}{s:Bs}{a:Nat}{l:List Value}(R:Row b c (rdC s a (ptrTo d)) 1)(F:Row b d l 1)(k:Int4 l):Ret zB 123 [ptrTo c] b fun r m=>Gr b m/\ ∃t v,r=.iface t v:=by
 have S:=Si j
 obtain⟨x,y,z,w,rfl⟩:=k
 have p:b.load c 2 1=some [ptrTo d]:=R.load1 (o:=2) rfl
 have f:=F.load (o:=0) (n:=4) (XE 4)
 simp only [Xd,Xl,Xo]at f
 refine ab (n:=20) (rs:=[.tmp 2]) rfl Tryz.e123 rfl rfl rfl (lbt rfl) ?_
 simp only [BS,LB,Nat.reduceLT,Nat.reduceEqDiff,F08,p,f]
 refine ag av S ?_;clear S;intro h u S g
 simp only [BS,LB,Nat.reduceLT,Nat.reduceEqDiff]
 refine aw (S.store (i:=0) rfl ?_ ?_ rfl rfl ?_ ono) ?_
 . exact(by exact Tryz.t126.2.1)
 . exact(by intro x e;cases e)
 . exact lbt rfl
 clear S;rintro h ⟨S,q⟩;clear q;simp only [LC,ah,lay,Xx,Xy,Nat.reduceAdd]at S
 simp only [BS,LB,ae,Nat.reduceLT,Nat.reduceEqDiff,F08]
 exact⟨S.gr,_,_,rfl⟩
def FlF(f:Value)(bad:Bool)(F:List (Nat×Ob)):Prop:=if bad=true then∃b l,f=ptrTo b/\Int4 l/\F=[(b,.row l 1)]else f=.pointer none/\F=[]
theorem FlF.rd{f:Value}{bad:Bool}{F:List (Nat×Ob)}(h:FlF f bad F):RdF f bad:=by
 cases bad with
 |true=>obtain⟨b,l,rfl,_⟩:=h;exact⟨_,rfl⟩
 |false=>exact h.1
theorem St.perm{M:Nat->Prop}{a h:Hp}{L L':List (Nat×Ob)}{G:List GL}(S:St M a h L G)(p:L'.Perm L):St M a h L' G:=
 ⟨S.fr,fun x b=>S.own x (p.mem_iff.1 b),S.gown,(((p.map Prod.fst).append_right (G.filterMap fu)).nodup_iff).2 S.apart⟩
theorem St.adv{M:Nat->Prop}{g h d:Hp}{A F L:List (Nat×Ob)}{G:List GL}{c:Nat}{o o':Ob}{f k:Value}{bad a:Bool}(S:St M g h (A++(c,o)::(F++L)) G)(p:FlF f bad F)(q:Mo (· =c) h d)(r:Has d c o')(O:RdO h d f bad k a): ∃F',FlF k a F'/\St M g d (A++(c,o')::(F'++L)) G:=by
 have e:(A++(c,o)::(F++L))[A.length]? =some (c,o):=by simp
 have i:=S.call1 e q r
 rw [List.set_append_right _ _ (XE _),X9,Xw]at i
 obtain⟨s,⟨rfl,rfl⟩|⟨b,l,rfl,t,u,R⟩⟩:=O
 . exact⟨F,p,i⟩
 . have j:a=true:=by
    cases a with
    |true=>rfl
    |false=>cases s
   subst j
   have m: ∀o,(A++(c,o)::L).Sublist (A++(c,o)::(F++L)):=fun o=>(List.Sublist.refl A).append ((XX F L).cons_cons _)
   have v:St M g d (A++(c,o')::L) G:=i.sub (m o') (List.Sublist.refl _)
   have w:=v.push (b:=b) (o:=.row l 1) (.inl (XG S.fr.n t)) R (fun n=>by
    have x:keys (A++(c,o')::L) G=keys (A++(c,o)::L) G:=by simp [keys]
    rw [x]at n
    have:=(S.sub (m o) (List.Sublist.refl _)).key_lt n
    omega)
   exact⟨[(b,.row l 1)],⟨b,l,rfl,u,rfl⟩,w.perm ((List.Perm.append_left A (List.Perm.swap _ _ _)).trans List.perm_middle)⟩
theorem CJ{M:Nat->Prop}{c hq:Hp}{L:List (Nat×Ob)}{G:List GL}(S:St M c hq L G){b:Nat}:
 Ret zB 119 [ptrTo b] hq fun r f=> ∃a,r=.func (.func 170) #[] #[ptrTo a]/\St M c f ((a,.row [ptrTo b] 1)::L) G:=by
 have g:=S.ok
 refine ab (n:=4) (rs:=[.tmp 2]) rfl Tryz.e119 rfl rfl rfl (lbt rfl) ?_
 simp only [BS,Nat.reduceLT]
 refine ag (bU (by intro x e;cases e)) S ?_;clear S;intro h a S d;simp only [ah]at S
 simp only [BS,LB,ae,Nat.reduceLT,Nat.reduceEqDiff]
 exact⟨_,rfl,S⟩
def ir(x:Ent):List Value:=[.int .i64 (x.1:Nat),.int .u64 (x.2.1:Nat),.int .u32 (x.2.2:Nat)]
theorem ki(x:Ent):(ir x).length=3:=rfl
theorem q6(l:Bs)(t:TypeId)(p q:Operand):a9 zB .eql t p q (sv l) (.string ⟨#[77,73,76,69,49,1]⟩)=some (.bool (decide (l=eG))):=AF (l:=l) (m:=eG)
theorem fI{M:Nat->Prop}{g h d:Hp}{L:List (Nat×Ob)}{G:List GL}(S:St M g h L G){c b i j:Nat}{o o':Ob}(e:L[i]? =some (c,o))(k:L[j]? =some (b,o'))(a:i≠j)(f:Mo (· =b) h d):leaves h d c=true:=by
 refine S.leaves (Xc e) f ?_
 rintro rfl
 have l:=jM (G:=G) e
 have m:=jM (G:=G) k
 obtain⟨q,n⟩:=List.getElem?_eq_some_iff.1 l
 obtain⟨r,p⟩:=List.getElem?_eq_some_iff.1 m
 exact a ((List.getElem_inj S.apart).1 (n.trans p.symm))
def goodH(s:Bs):Prop:=s.take 6=eG/\aK s<=16
theorem Bo{M:Nat->Prop}{v hq:Hp}{L:List (Nat×Ob)}{G:List GL}{s:Bs}{b l m E y H:Nat}{X:gm}(S:St M v hq ((y,.loop X)::(H,.dfr)::(m,.row [ptrTo b] 1)::(E,.row [.slice none 0 0] 1)::(b,.row [ptrTo l,sv s] 1)::(l,.row (rdC s 0 (.pointer none)) 1)::L) ((.slice none 0 0,3,[])::G))(I:s.length<=1000000)
 (HR: ∀(k:Nat) (r:Value) (f:Value) (F:List (Nat×Ob)) (h:Hp),k<aK s->aK s<=16->FlF f (stE s (k+1)).2 F->St M v h ((y,.loop X)::(H,.dfr)::(m,.row [ptrTo b] 1)::(E,.row [r] 1)::(b,.row [ptrTo l,sv s] 1)::(l,.row (rdC s (stE s (k+1)).1 f) 1)::(F++L)) ((r,3,(zM k).flatMap fun j=>ir (enG s j))::G)->j7 zB y [.agg ⟨ir (enG s k)⟩] h fun o R=>o=.ret (.bool true)/\ ∃z,St M v R ((y,.loop X)::(H,.dfr)::(m,.row [ptrTo b] 1)::(E,.row [z] 1)::(b,.row [ptrTo l,sv s] 1)::(l,.row (rdC s (stE s (k+1)).1 f) 1)::(F++L)) ((z,3,(zM (k+1)).flatMap fun j=>ir (enG s j))::G)):
 dQ zB 170 [.func (.yield y) #[] #[],ptrTo m] none hq fun o rc R=>rc=none/\
  ((goodH s/\ ∃u r f F,FlF f (stE s (aK s)).2 F/\o=.ret u/\St M v R ((y,.loop X)::(H,.dfr)::(m,.row [ptrTo b] 1)::(E,.row [r] 1)::(b,.row [ptrTo l,sv s] 1)::(l,.row (rdC s (stE s (aK s)).1 f) 1)::(F++L)) ((r,3,(zM (aK s)).flatMap fun j=>ir (enG s j))::G))\/
   (¬goodH s/\o=.pan (.iface 29 (.int .i64 23))/\ ∃a f,St M v R ((y,.loop X)::(H,.dfr)::(m,.row [ptrTo b] 1)::(E,.row [.slice none 0 0] 1)::(b,.row [ptrTo l,sv s] 1)::(l,.row (rdC s a f) 1)::L) ((.slice none 0 0,3,[])::G))):=by
 have ok:=S.ok
 have t: ∀{h:Hp} {A:List (Nat×Ob)} {x:Nat×Ob} {F:List (Nat×Ob)} {G:List GL},St M v h (A++x::(F++L)) G->St M v h (A++x::L) G:=fun S=>S.sub ((List.Sublist.refl _).append ((XX _ L).cons_cons _)) (List.Sublist.refl _)
 refine enter (n:=44) (rs:=[]) rfl Tryz.e170 rfl rfl rfl (lbt rfl) ?_
 simp only [BS,LB,Nat.reduceLT,Nat.reduceEqDiff,Fp,S.ld (b:=m) (o:=0) m2 rfl,S.ld (b:=b) (o:=0) m4 rfl]
 refine step_ret (AI (n:=6) (bad:=false) (St.init1 S.ok (S.own _ m5).2) (i:=0) rfl rfl (Xe _) I (by decide)) ?_
 rintro _ h ⟨rfl,J,d,T⟩
 simp only [Xw]at T
 obtain⟨F,p,S⟩:=St.adv (A:=[_,_,_,_,_]) (F:=[]) S (show FlF (.pointer none) false []from⟨rfl,rfl⟩) T.fr (T.own _ m0).2 d
 clear T d
 by_cases K:s.take 6=eG
 . have l6:6<=s.length:=by
    have:=congrArg Yb K
    rw [Xj]at this
    have:(eG).length=6:=rfl
    omega
   rw [cV (by omega)]at p S⊢
   obtain⟨rfl,rfl⟩:J=.pointer none/\F=[]:=p
   simp only [LC,Xd,K,Xk]at S⊢
   have Y:decide (eG=eG)=true:=decide_eq_true rfl
   simp only [BS,LB,Nat.reduceLT,Nat.reduceEqDiff,q6]
   refine al (nI S.ok (c:=23)) ?_;intro h g;replace S:=S.call g;clear g
   simp only [BS,LB,Nat.reduceLT,Nat.reduceEqDiff,Fp,S.ld (b:=m) (o:=0) m2 rfl,S.ld (b:=b) (o:=0) m4 rfl]
   refine step_ret (wP (bad:=false) (St.init1 S.ok (S.own _ m5).2) (i:=0) rfl rfl (by omega) I) ?_
   rintro _ h ⟨rfl,J,d,T⟩
   simp only [Xw]at T
   obtain⟨F,p,S⟩:=St.adv (A:=[_,_,_,_,_]) (F:=[]) S (show FlF (.pointer none) false []from⟨rfl,rfl⟩) T.fr (T.own _ m0).2 d
   clear T d
   rw [many_tk]
   replace p:FlF J (stE s 0).2 F:=p
   replace S:St M v h ([_,_,_,_,_]++(l,.row (rdC s (stE s 0).1 J) 1)::(F++L)) _:=S
   simp only [LC]at S
   have mb:aK s<256:=pU (k:=1) (by simp;omega)
   have Z:am .i64 (aK s:Int)=aK s:=by rw [wrap64]<;>omega
   by_cases p2:aK s<=16
   . generalize hn:aK s=n at*
     have B:(n:Int)<=16:=by omega
     simp only [BS,LB,ck,aF,cq,Nat.reduceLT,Nat.reduceEqDiff,Fp,Z,B]
     refine al (nI S.ok (c:=23)) ?_;intro h g;replace S:=S.call g;clear g
     simp only [BS,LB,Nat.reduceLT,Nat.reduceEqDiff]
     refine az (fun(k:Nat) N h=>k<=n/\ ∃r f F,FlF f (stE s k).2 F/\St M v h ((y,.loop X)::(H,.dfr)::(m,.row [ptrTo b] 1)::(E,.row [r] 1)::(b,.row [ptrTo l,sv s] 1)::(l,.row (rdC s (stE s k).1 f) 1)::(F++L)) ((r,3,(zM k).flatMap fun j=>ir (enG s j))::G)/\N 0=.func (.yield y) #[] #[]/\N 1=ptrTo m/\N 20=.int .i64 n/\N 21=.int .i64 k) (fun k=>n-k) ?_ 0 _ _ ?_
     . clear S p
       intro k ih N h ⟨hk,r,f,F,p,S,r0,r1,r20,r21⟩
       have w:am .i64 ((k:Int)+1)=((k+1:Nat):Int):=by rw [wrap64]<;>omega
       by_cases hlt:k<n
       . obtain⟨q1,q2,q3⟩:=enG_lt s k
         have O:=stE_at l6 k
         simp only [BS,LB,Nat.reduceLT,r20,r21,an,hlt]
         refine rV (by kernel_rfl) (n:=18) (by kernel_rfl) (ax rfl) (q:=0) (ps:=[(11,15),(5,15),(11,12),(5,12),(5,10),(5,7)]) (by kernel_rfl) ?_
         simp only [Xv,XI,Nat.reduceAdd,Nat.reduceSub,Xk,Xl,Xo,XM,Xd]
         simp only [BS,LB,cls,Nat.reduceLT,Nat.reduceEqDiff,Nat.reduceAdd,Nat.reducePow,Nat.reduceDiv,Nat.reduceMod,Nat.reduceLeDiff,Fp,r0,r1,S.ld (b:=m) (o:=0) m2 rfl,S.ld (b:=b) (o:=0) m4 rfl]
         refine ce (wP (St.init1 S.ok (S.own _ m5).2) (i:=0) rfl p.rd O I) ?_
         rintro _ h ⟨rfl,f1,d,T⟩
         simp only [Xw]at T
         have v1:=fI S (i:=2) (j:=5) rfl rfl (by decide) T.fr
         have u1:=fI S (i:=4) (j:=5) rfl rfl (by decide) T.fr
         obtain⟨F1,C,S⟩:=St.adv (A:=[_,_,_,_,_]) S p T.fr (T.own _ m0).2 d
         clear T d p
         simp only [LC]at S
         have P:=mO (n:=1) (bad:=(stE s k).2) O
         have wk:am .i64 ((bz (bM s (stE s k).1 (stE s k).2 1).1:Nat):Int)=((enG s k).1:Nat):=wrap64 (by show _<=((enG s k).1:Int);omega) (by show((enG s k).1:Int)<_;omega)
         simp only [BS,LB,ck,aF,cq,cls,Nat.reduceLT,Nat.reduceEqDiff,Nat.reduceAdd,Nat.reducePow,Nat.reduceDiv,Nat.reduceMod,Nat.reduceLeDiff,Fp,r1,wk,S.ld (b:=m) (o:=0) m2 rfl,S.ld (b:=b) (o:=0) m4 rfl]
         refine ce (rU64_ok (St.init1 S.ok (S.own _ m5).2) (i:=0) rfl C.rd P I) ?_
         rintro _ h ⟨rfl,f2,d,T⟩
         simp only [Xw]at T
         have v2:=fI S (i:=2) (j:=5) rfl rfl (by decide) T.fr
         have u2:=fI S (i:=4) (j:=5) rfl rfl (by decide) T.fr
         obtain⟨F2,D,S⟩:=St.adv (A:=[_,_,_,_,_]) S C T.fr (T.own _ m0).2 d
         clear T d C
         simp only [LC]at S
         have U:=mO (n:=8) (bad:=(bM s (stE s k).1 (stE s k).2 1).2.2) P
         simp only [BS,LB,cls,Nat.reduceLT,Nat.reduceEqDiff,Nat.reduceAdd,Nat.reducePow,Nat.reduceDiv,Nat.reduceMod,Nat.reduceLeDiff,Fp,r1,S.ld (b:=m) (o:=0) m2 rfl,S.ld (b:=b) (o:=0) m4 rfl]
         refine ce (xG (St.init1 S.ok (S.own _ m5).2) (i:=0) rfl D.rd U I) ?_
         rintro _ h ⟨rfl,f3,d,T⟩
         simp only [Xw]at T
         have v3:=fI S (i:=2) (j:=5) rfl rfl (by decide) T.fr
         have u3:=fI S (i:=4) (j:=5) rfl rfl (by decide) T.fr
         obtain⟨F3,Q,S⟩:=St.adv (A:=[_,_,_,_,_]) S D T.fr (T.own _ m0).2 d
         clear T d D
         simp only [LC]at S
         simp only [BS,LB,cls,Nat.reduceLT,Nat.reduceEqDiff,Nat.reduceAdd,Nat.reducePow,Nat.reduceDiv,Nat.reduceMod,Nat.reduceLeDiff,Fp]
         refine⟨by simp only [aX,bo,aS,bD,aV,ne_eq,not_false_eq_true,bC,bR,aZ,aW,bZ,cu,aT,Nat.reduceLT,Nat.reduceEqDiff,reduceIte,XK,r1,ac,aD v1,aD u1,aD v2,aD u2,aQ v1,aQ u1,aQ v2,aQ u2],?_⟩
         refine rN (HR k r f3 F3 _ hlt (by omega) Q S) ?_
         rintro _ h ⟨rfl,z,S⟩
         simp only [BS,LB,Nat.reduceLT,Nat.reduceEqDiff,r21,w]
         exact ih (k+1) _ _ (by omega) ⟨by omega,z,f3,F3,Q,S,by simp [aa,r0],by simp [aa,r1],by simp [aa,r20],by simp [aa]⟩
       . have V:k=n:=by omega
         subst V
         simp only [BS,LB,Nat.reduceLT,r20,r21,an,hlt]
         exact di (cL ⟨rfl,_,rfl,rfl,.inl ⟨⟨K,by omega⟩,_,r,f,F,p,rfl,S⟩⟩)
     . exact⟨Xe _,_,J,F,p,S,by simp [aa,cw],by simp [aa,cw,ac],by simp [aa],by simp [aa]⟩
   . have B: ¬(aK s:Int)<=16:=by omega
     simp only [BS,LB,ck,aF,cq,Nat.reduceLT,Nat.reduceEqDiff,Fp,Z,B]
     refine fJ (k9 S.ok (c:=23)) ?_
     rintro _ _ h ⟨rfl,rfl,g⟩
     replace S:=S.call g
     simp only [BS,Xg]
     exact du (cL ⟨rfl,.inr ⟨fun h=>p2 h.2,rfl,_,_,t (A:=[_,_,_,_,_]) S⟩⟩)
 . have W: ¬(bM s 0 false 6).1=eG:=fun e=>by
    by_cases hl:0+6<=s.length
    . rw [cV hl]at e;exact K e
    . rw [jk (.inr (by omega))]at e;cases e
   have Y:decide ((bM s 0 false 6).1=eG)=false:=decide_eq_false W
   simp only [BS,LB,Nat.reduceLT,Nat.reduceEqDiff,q6,Y]
   refine fJ (k9 S.ok (c:=23)) ?_
   rintro _ _ h ⟨rfl,rfl,g⟩
   replace S:=S.call g
   simp only [BS,Xg]
   exact du (cL ⟨rfl,.inr ⟨fun h=>K h.1,rfl,_,_,t (A:=[_,_,_,_,_]) S⟩⟩)
def Tryz.F7:=aj t1<|aj t2<|aj t3<|aj t4<|aj t5<|aj t6<|aj Z0<|aj Z2<|aj t9<|aj t10<|aj t11<|aj t12<|aj Z6<|aj Z10<|aj t15<|aj t16<|aj t17<|aj Z23<|aj Z22<|aj t20<|aj t21<|aj t22<|aj t29<|aj t33<|aj Z11<|aj t58<|aj t69<|aj t85<|aj t118<|aj t119<|aj t122<|aj r122<|aj t128<|aj t157<|aj Z7<|aj t194<|aj t196<|aj t199<|aj r199<|aj t268<|aj Z15<|aj t355<|aj t357<|aj t359<|aj t360<|aj t361<|aj t362<|Z18
theorem encEs(s:Bs)(k:Nat):((zM k).flatMap fun j=>ir (dE s j))=((zM k).map (dE s)).flatMap ir:=by rw [List.flatMap_map]
theorem encGs(s:Bs)(k:Nat):((zM k).flatMap fun j=>ir (enG s j))=((zM k).map (enG s)).flatMap ir:=by rw [List.flatMap_map]
theorem encG{s:Bs}{k:Nat}(h:7+13*k<=s.length):((zM k).flatMap fun j=>ir (enG s j))=(zM k).flatMap fun j=>ir (dE s j):=by
 rw [encGs,encEs,XS fun j a=>enG_eq (by have:=List.mem_range.1 a;omega)]
def DecQ(M:Nat->Prop)(d:Hp)(L:List (Nat×Ob))(G:List GL)(s:Bs)(b c:Nat)(o:Out)(g:Hp):Prop:=
 ∃ a f,match decF s with
     | .ok l=> ∃v,o=.ret v/\St M d g ((b,.row [ptrTo c,sv s] 1)::(c,.row (rdC s a f) 1)::L) ((v,2,l.flatMap encS)::G)
     | .error e=>o=.pan (.iface 29 (.int .i64 (if e=true then 24 else 23)))/\St M d g ((b,.row [ptrTo c,sv s] 1)::(c,.row (rdC s a f) 1)::L) G
theorem decode_ok {M:Nat->Prop} {W hq:Hp} {L:List (Nat×Ob)} {G:List GL} {s:Bs} {b H:Nat} (S:St M W hq ((b,.row [ptrTo H,sv s] 1)::(H,.row (rdC s 0 (.pointer none)) 1)::L) G) (hs:s.length<=1000000):
 dQ zB 60 [ptrTo b] none hq fun o rc z=>rc=none/\DecQ M W L G s b H o z:=by
 have ok:=S.ok
 refine enter (n:=106) (rs:=[.tmp 2]) rfl Tryz.e60 rfl rfl rfl (lbt rfl) ?_
 simp only [BS,F7]
 refine ag av S ?_;clear S;intro h b3 S a6
 simp only [BS,LB,Nat.reduceLT,Nat.reduceEqDiff]
 refine step_ret (CJ S) ?_
 rintro _ h ⟨bx,rfl,S⟩
 simp only [BS]
 refine jm S (g:=170) (a:=#[]) (b:=#[ptrTo bx]) (by simp [bZ,aa,ac]) rfl rfl ?_
 clear S
 intro h K lb S _ _ _
 obtain⟨X,hX,S⟩: ∃X:gm,X=_/\St M W h ((lb,.loop X)::_) G:=⟨_,rfl,S⟩
 refine eJ (Bo (S.nilG (k:=3)) hs ?_) ?_
 . clear S
   intro k I f F h hk a7 hF S
   subst hX
   have eg:((zM (k+1)).flatMap fun j=>ir (enG s j))=((zM k).flatMap fun j=>ir (enG s j))++ir (enG s k):=by rw [List.range_succ,Xn];simp
   rw [eg]
   refine jn (S.get m0) (by rw [Tryz.e60];rfl) rfl ?_
   simp only [BS,F7]
   refine ag av S ?_;clear S;intro h b4 S a8
   simp only [BS,LB,Nat.reduceLT,Nat.reduceEqDiff,ir]
   refine aw (S.store (i:=0) rfl ?_ ?_ rfl rfl ?_ ono) ?_
   . exact(by exact Tryz.t193.2.1)
   . exact(by intro x e;cases e)
   . exact lbt rfl
   clear S;rintro h ⟨S,N⟩;clear N;simp only [LC,ah,lay,Xx,Xy,Nat.reduceAdd]at S
   simp only [BS]
   refine iN S (i:=1) rfl rfl rfl rfl rfl ?_
   clear S;intro h S
   have U:Fl I:=(S.gown _ m0).1.fl
   simp only [BS,LB,Nat.reduceLT,Nat.reduceEqDiff,F7,Xl,Xo,Xd,S.ld (b:=b3) (o:=0) m4 rfl,S.lds (b:=b4) (o:=0) (n:=3) m0 (lbt rfl)]
   refine ag (bj (by exact Tryz.t194.1) (by exact Tryz.e199E) (by decide) (by rfl)) S ?_;clear S;intro h bs S af;simp only [LC,aU,bA,ah,Nat.reduceMul,Nat.reduceAdd,XB,Xk,Xi,XF]at S
   simp only [BS,LB,Nat.reduceLT,Nat.reduceEqDiff]
   have B:aA h 3 (.slice (some ⟨bs,0,none⟩) 1 1)=some (1,ir (enG s k)):=by simp only [aA];rw [S.lds (b:=bs) (o:=0) (n:=1*3) m0 (lbt rfl)];rfl
   replace S:=S.drop1
   refine dT (S.grow (j:=0) (m:=1) (new:=ir (enG s k)) rfl Tryz.t194.1 Tryz.e199E (by decide) Tryz.t194.2.2.2.2.2 B rfl (by decide) rfl (by rw [encGs,aI ki,List.length_map,XV,ki];omega)) ?_
   clear S B U;rintro h ai S
   simp only [LC]at S
   have U:Fl ai:=(S.gown _ m0).1.fl
   simp only [BS,LB,Nat.reduceLT,Nat.reduceEqDiff]
   refine aw (ar S (i:=4) rfl ?_ ?_ ?_ ono) ?_
   . exact(by simp only [F7])
   . exact(by assumption)
   . exact Xb (lbt rfl)
   clear S;rintro h ⟨S,N⟩;clear N;simp only [LC,ah,lay,Xx,Xy,Nat.reduceAdd]at S
   simp only [BS]
   refine fk S (i:=1) rfl ?_
   clear S;intro h S
   exact⟨rfl,ai,S.drop1⟩
 . clear S
   have d: ∀{z:Hp} {a:Nat} {f:Value} {L':List (Nat×Ob)} {G':List GL},¬i9 s->St M W z L' G'->((b,.row [ptrTo H,sv s] 1)::(H,.row (rdC s a f) 1)::L).Sublist L'->G.Sublist G'->DecQ M W L G s b H (.pan (.iface 29 (.int .i64 23))) z:=fun {z a f L' G'} hh S s1 s2=>by
    have e:decF s=.error false:=by unfold decF;rw [if_neg hh]
    unfold DecQ
    simp only [e]
    exact⟨a,f,rfl,S.sub s1 s2⟩
   rintro o rc h ⟨rfl,C⟩
   subst hX
   rcases C with⟨⟨p1,p2⟩,u,I,f,F,hF,rfl,S⟩|⟨np,rfl,a,f,S⟩
   rotate_left
   . show Run _ _ _ _ _ _ _ _
     simp only [BS]
     replace S:=S.drop1
     have O: ¬i9 s:=fun h=>np ⟨h.1,h.2.2.1⟩
     exact du (fW [K] h S fun z S=>⟨rfl,d O S ((zO _ _).trans (zO _ _)) (zO _ _)⟩)
   refine⟨_,S.get m0,Nat.zero_ne_one,?_⟩
   replace S:=S.dead
   show Run _ _ _ _ _ _ _ _
   simp only [BS,LB,Nat.reduceLT,Nat.reduceEqDiff,F7,S.ld (b:=b) (o:=0) m3 rfl]
   refine al (rAt_ok S.ok (S.row m4)) ?_;intro h g;replace S:=S.call g;clear g
   simp only [BS,LB,Nat.reduceLT,Nat.reduceEqDiff,F7,S.ld (b:=b) (o:=0) m3 rfl]
   have l6:6<=s.length:=by
    have:=congrArg Yb p1
    rw [Xj]at this
    have:(eG).length=6:=rfl
    omega
   have a2:=stE_at l6 (aK s)
   refine step_ret (xG (St.init1 S.ok (S.own _ m4).2) (i:=0) rfl hF.rd a2 hs) ?_
   rintro _ h ⟨rfl,f',D,T⟩
   simp only [Xw]at T
   obtain⟨F',P,S⟩:=St.adv (A:=[_,_,_,_]) S hF T.fr (T.own _ m0).2 D
   clear T D hF
   by_cases p3:11+13*aK s<=s.length
   rotate_left
   . have O: ¬i9 s:=fun h=>p3 h.2.2.2.1
     rw [finE_bad (by omega)]at P
     obtain⟨bf,lf,rfl,a3,rfl⟩:=P
     simp only [LC]at S
     simp only [BS,LB,Nat.reduceLT,Nat.reduceEqDiff,F7,S.ld (b:=b) (o:=0) m3 rfl]
     refine step_ret (rErrB_ok S.ok (S.row m4) (S.row m5) a3) ?_
     rintro _ h ⟨g,t,v,rfl⟩
     replace S:=S.call g
     simp only [BS,LB,Nat.reduceLT,Nat.reduceEqDiff,F7]
     refine fJ (k9 S.ok (c:=23)) ?_
     rintro _ _ h ⟨rfl,rfl,g⟩
     replace S:=S.call g
     simp only [BS,Xg]
     exact du (fW [K] h S fun z S=>⟨rfl,d O S ((((zO _ _).cons_cons _).cons_cons _).trans ((zO _ _).trans (zO _ _))) (zO _ _)⟩)
   rw [vP (aK s) (by omega),cV (by simp only [];omega)]at P S⊢
   obtain⟨rfl,rfl⟩:f'=.pointer none/\F'=[]:=P
   simp only [LC]at S⊢
   rw [encG (by omega)]at S
   simp only [BS,LB,Nat.reduceLT,Nat.reduceEqDiff,F7,S.ld (b:=b) (o:=0) m3 rfl]
   refine al (rErr_ok S.ok (S.row m4)) ?_;intro h g;replace S:=S.call g;clear g
   have sl:=BL (l:=s) (k:=.i64) (b:=7+13*aK s) Tryz.t9.1 (by omega)
   simp only [BS,LB,Nat.reduceLT,Nat.reduceEqDiff,XD,XH,F7,sl,S.ld (b:=b) (o:=0) m3 rfl,S.ld (b:=b) (o:=1) m3 rfl]
   refine al (xd S.ok (l:=s.take (7+13*aK s)) (by rw [Xj];omega)) ?_;intro h g;replace S:=S.call g;clear g
   by_cases p4:bz ((s.drop (7+13*aK s)).take 4)=crc (s.take (7+13*aK s))
   rotate_left
   . have O: ¬i9 s:=fun h=>p4 h.2.2.2.2.1
     have q4:(((bz ((s.drop (7+13*aK s)).take 4):Nat):Int)=((crc (s.take (7+13*aK s)):Nat):Int))=False:=eq_false (by omega)
     simp only [BS,LB,Nat.reduceLT,Nat.reduceEqDiff,q4]
     refine fJ (k9 S.ok (c:=23)) ?_
     rintro _ _ h ⟨rfl,rfl,g⟩
     replace S:=S.call g
     simp only [BS,Xg]
     exact du (fW [K] h S fun z S=>⟨rfl,d O S ((zO _ _).trans (zO _ _)) (zO _ _)⟩)
   have q4:(((bz ((s.drop (7+13*aK s)).take 4):Nat):Int)=((crc (s.take (7+13*aK s)):Nat):Int))=True:=eq_true (by omega)
   simp only [BS,LB,Nat.reduceLT,Nat.reduceEqDiff,q4]
   refine al (nI S.ok (c:=23)) ?_;intro h g;replace S:=S.call g;clear g
   rw [show 7+13*aK s+4=11+13*aK s by omega]at S
   simp only [BS,LB,Nat.reduceLT,Nat.reduceEqDiff,F7,S.ld (b:=b) (o:=0) m3 rfl]
   refine al (rLeft_ok S.ok (S.row m4) (by omega) hs) ?_;intro h g;replace S:=S.call g;clear g
   obtain⟨R,hR⟩: ∃R,R=s.length-(11+13*aK s):=⟨_,rfl⟩
   rw [<-hR]
   have wl:=cC (k:=.u64) rfl (n:=R) (by simp only [pw];omega)
   have U:Fl I:=(S.gown _ m0).1.fl
   have J:=(S.gown _ m0).1.sl (xs:=esF s) (encEs s _) ki (by decide)
   have Q:(esF s).length=aK s:=ru s
   have ak: ∀k (hk:k<aK s),(esF s)[k]'(by omega)=dE s k:=fun k hk=>by
    have:=esF_at hk;rw [XC (by omega)]at this;exact Option.some.inj this
   simp only [BS,LB,ck,aF,cq,Nat.reduceLT,Nat.reduceEqDiff,F7,wl,J.lenq,Q,S.ld (b:=b3) (o:=0) m2 rfl]
   refine az (fun(k:Nat) p h=>k<=aK s/\St M W h ((K,.dfr)::(bx,.row [ptrTo b] 1)::(b3,.row [I] 1)::(b,.row [ptrTo H,sv s] 1)::(H,.row (rdC s (11+13*aK s) (.pointer none)) 1)::L) ((I,3,(zM (aK s)).flatMap fun j=>ir (dE s j))::G)/\p 0=ptrTo b/\p 2=.slice none 0 0/\p 3=ptrTo b3/\ey s k<=R/\p 7=.int .u64 ((R-ey s k:Nat):Int)/\p 53=I/\p 54=.int .i64 (aK s:Nat)/\p 55=.int .i64 (k:Nat)) (fun k=>aK s-k) ?_ 0 _ _ ⟨Xe _,S,by simp [aa,cw,ac],by simp [aa],by simp [aa,ac],by simp [ey],by simp [aa,ey],by simp [aa],by simp [aa],by simp [aa]⟩
   clear S J sl
   intro k ih p h ⟨hk,S,r0,r2,r3,hle,r7,r53,r54,r55⟩
   have J:=(S.gown _ m0).1.sl (xs:=esF s) (encEs s _) ki (by decide)
   have w:am .i64 ((k:Int)+1)=((k+1:Nat):Int):=by rw [wrap64]<;>omega
   by_cases hlt:k<aK s
   . obtain⟨c,o,r,y⟩:=J.ix (kd:=.i64) ki (by rw [Q];exact hlt)
     rw [ak k hlt]at y
     have l1:=wG hlt
     by_cases hL:ey s (k+1)<=R
     rotate_left
     . have O: ¬i9 s:=fun h=>hL (by have:=A1 s (k+1);have:=(pV h).2.2.2.2;omega)
       have le:(((dE s k).2.1:Int)<=((R-ey s k:Nat):Int))=False:=eq_false (by omega)
       simp only [BS,LB,Nat.reduceLT,Nat.reduceEqDiff,F7,r53,r54,r55,an,hlt,r,y]
       refine ag av S ?_;clear S;intro h b9 S aL
       simp only [BS,LB,Nat.reduceLT,Nat.reduceEqDiff,ir]
       refine aw (S.store (i:=0) rfl ?_ ?_ rfl rfl ?_ ono) ?_
       . exact(by exact Tryz.t193.2.1)
       . exact(by intro x e;cases e)
       . exact lbt rfl
       clear S;rintro h ⟨S,N⟩;clear N;simp only [LC,ah,lay,Xx,Xy,Nat.reduceAdd]at S
       simp only [BS,LB,Nat.reduceLT,Nat.reduceEqDiff,F7,r7,le,S.ld (b:=b9) (o:=1) m0 rfl]
       refine fJ (k9 S.ok (c:=23)) ?_
       rintro _ _ h ⟨rfl,rfl,g⟩
       replace S:=(S.call g).drop1
       simp only [BS,Xg]
       exact du (fW [K] h S fun z S=>⟨rfl,d O S ((zO _ _).trans (zO _ _)) (zO _ _)⟩)
     have le:(((dE s k).2.1:Int)<=((R-ey s k:Nat):Int))=True:=eq_true (by omega)
     have ws:am .u64 (((R-ey s k:Nat):Int)-((dE s k).2.1:Int))=((R-ey s (k+1):Nat):Int):=by
      rw [show(((R-ey s k:Nat):Int)-((dE s k).2.1:Int))=((R-ey s (k+1):Nat):Int) by omega]
      exact cC rfl (by simp only [pw];omega)
     simp only [BS,LB,Nat.reduceLT,Nat.reduceEqDiff,F7,r53,r54,r55,an,hlt,r,y]
     refine ag av S ?_;clear S;intro h b9 S aL
     simp only [BS,LB,Nat.reduceLT,Nat.reduceEqDiff,ir]
     refine aw (S.store (i:=0) rfl ?_ ?_ rfl rfl ?_ ono) ?_
     . exact(by exact Tryz.t193.2.1)
     . exact(by intro x e;cases e)
     . exact lbt rfl
     clear S;rintro h ⟨S,N⟩;clear N;simp only [LC,ah,lay,Xx,Xy,Nat.reduceAdd]at S
     simp only [BS,LB,Nat.reduceLT,Nat.reduceEqDiff,F7,r7,le,S.ld (b:=b9) (o:=1) m0 rfl]
     refine al (nI S.ok (c:=23)) ?_;intro h g;replace S:=S.call g;clear g
     simp only [BS,LB,Nat.reduceLT,Nat.reduceEqDiff,F7,r7,r55,ws,w,S.ld (b:=b9) (o:=1) m0 rfl]
     exact ih (k+1) _ _ (by omega) ⟨by omega,S.drop1,by simp [aa,r0],by simp [aa,r2],by simp [aa,r3],hL,by simp [aa],by simp [aa,r53],by simp [aa,r54],by simp [aa]⟩
   have Y:k=aK s:=by omega
   subst Y
   by_cases hz:R-ey s (aK s)=0
   rotate_left
   . have O: ¬i9 s:=fun h=>hz (by have:=(pV h).2.2.2.2;omega)
     have z0:(((R-ey s (aK s):Nat):Int)=0)=False:=eq_false (by omega)
     simp only [BS,LB,Nat.reduceLT,Nat.reduceEqDiff,r7,r54,r55,an,hlt,z0]
     refine fJ (k9 S.ok (c:=23)) ?_
     rintro _ _ h ⟨rfl,rfl,g⟩
     replace S:=S.call g
     simp only [BS,Xg]
     exact du (fW [K] h S fun z S=>⟨rfl,d O S ((zO _ _).trans (zO _ _)) (zO _ _)⟩)
   have p5:ey s (aK s)=s.length-(11+13*aK s):=by omega
   have hh:i9 s:=⟨p1,by omega,p2,p3,p4,by rw [esF_eq,<-tt];exact p5⟩
   rw [hz]at r7
   have z0:((0:Nat):Int)=0:=rfl
   simp only [BS,LB,Nat.reduceLT,Nat.reduceEqDiff,r7,r54,r55,an,hlt,z0]
   refine al (nI S.ok (c:=23)) ?_;intro h g;replace S:=S.call g;clear g
   have J:=(S.gown _ m0).1.sl (xs:=esF s) (encEs s _) ki (by decide)
   have U:Fl I:=(S.gown _ m0).1.fl
   simp only [BS,LB,Nat.reduceLT,Nat.reduceEqDiff,F7,r3,J.lenq,Q,S.ld (b:=b3) (o:=0) m2 rfl]
   replace S:=S.nilG (k:=2)
   refine az (fun(k:Nat) p h=>k<=aK s/\ ∃v,St M W h ((K,.dfr)::(bx,.row [ptrTo b] 1)::(b3,.row [I] 1)::(b,.row [ptrTo H,sv s] 1)::(H,.row (rdC s (jT s k) (.pointer none)) 1)::L) ((v,2,((zM (k)).map (gJ s)).flatMap encS)::(I,3,(zM (aK s)).flatMap fun j=>ir (dE s j))::G)/\(∀j,j<k->crc (gJ s j).2=(dE s j).2.2)/\p 0=ptrTo b/\p 2=v/\p 72=I/\p 73=.int .i64 (aK s:Nat)/\p 74=.int .i64 (k:Nat)) (fun k=>aK s-k) ?_ 0 _ _ ⟨Xe _,_,by rw [show jT s 0=11+13*aK s by simp [jT,ey]];exact S,fun j h=>absurd h (Nat.not_lt_zero _),by simp [aa,r0],by simp [aa,r2],by simp [aa],by simp [aa],by simp [aa]⟩
   clear S J U r0 r2 r3 r7 r53 r54 r55 ih
   clear p h
   intro k ih p h ⟨hk,v,S,hc,r0,r2,r72,r73,r74⟩
   have J:=(S.gown _ m1).1.sl (xs:=esF s) (encEs s _) ki (by decide)
   have U:Fl v:=(S.gown _ m0).1.fl
   have w:am .i64 ((k:Int)+1)=((k+1:Nat):Int):=by rw [wrap64]<;>omega
   by_cases hlt:k<aK s
   . obtain⟨c,o,r,y⟩:=J.ix (kd:=.i64) ki (by rw [Q];exact hlt)
     rw [ak k hlt]at y
     have o1:=yO hlt
     have o2:=offF_le hh (k+1)
     have ts:=cV (s:=s) (a:=jT s k) (n:=(dE s k).2.1) (by omega)
     have wn:am .i64 ((dE s k).2.1:Int)=((dE s k).2.1:Nat):=by rw [wrap64]<;>omega
     simp only [BS,LB,Nat.reduceLT,Nat.reduceEqDiff,F7,r72,r73,r74,an,hlt,r,y]
     refine ag av S ?_;clear S;intro h E S a4
     simp only [BS,LB,Nat.reduceLT,Nat.reduceEqDiff,ir]
     refine aw (S.store (i:=0) rfl ?_ ?_ rfl rfl ?_ ono) ?_
     . exact(by exact Tryz.t193.2.1)
     . exact(by intro x e;cases e)
     . exact lbt rfl
     clear S;rintro h ⟨S,N⟩;clear N;simp only [LC,ah,lay,Xx,Xy,Nat.reduceAdd]at S
     simp only [BS]
     refine rV (by kernel_rfl) (n:=14) (by kernel_rfl) (ax rfl) (q:=4096) (ps:=[(2,10)]) (by kernel_rfl) ?_
     simp only [Xv,XI,Nat.reduceAdd,Nat.reduceSub,Xk,Xl,Xo,XM,Xd]
     simp only [BS,LB,ck,aF,cq,cls,Nat.reduceLT,Nat.reduceEqDiff,Nat.reduceAdd,Nat.reducePow,Nat.reduceDiv,Nat.reduceMod,Nat.reduceLeDiff,F7,r0,r2,wn,S.ld (b:=E) (o:=0) m0 rfl,S.ld (b:=E) (o:=1) m0 rfl,S.ld (b:=b) (o:=0) m4 rfl]
     refine ce (AI (bad:=false) (St.init1 S.ok (S.own _ m5).2) (i:=0) rfl rfl (by omega) hs (by omega)) ?_
     rintro _ h ⟨rfl,f',D,T⟩
     rw [ts]at D T⊢
     obtain rfl:f'=.pointer none:=D.1
     simp only [Xw]at T
     have v1:=fI S (i:=0) (j:=5) rfl rfl (by decide) T.fr
     have u1:=fI S (i:=4) (j:=5) rfl rfl (by decide) T.fr
     replace S:=S.call1 (i:=5) rfl T.fr (T.own _ m0).2
     simp only [LC,Xh,Xm]at S
     clear T
     rw [<-o1]at S
     simp only [BS,LB,cls,Nat.reduceLT,Nat.reduceEqDiff,Nat.reduceAdd,Nat.reducePow,Nat.reduceDiv,Nat.reduceMod,Nat.reduceLeDiff,F7,qq]
     refine ec (bj (by exact Tryz.t33.1) (by exact Tryz.e50E) (by decide) (by rfl)) S ?_;clear S;intro h bs S af ba;simp only [LC,aU,bA,ah,Nat.reduceMul,Nat.reduceAdd,XB,Xk,Xi,XF]at S
     have B:aA h 2 (.slice (some ⟨bs,0,none⟩) 1 1)=some (1,encS (gJ s k)):=by simp only [aA];rw [S.lds (b:=bs) (o:=0) (n:=1*2) m0 (lbt rfl)];rfl
     replace S:=S.drop1
     simp only [BS,LB,cls,Nat.reduceLT,Nat.reduceEqDiff,Nat.reduceAdd,Nat.reducePow,Nat.reduceDiv,Nat.reduceMod,Nat.reduceLeDiff]
     refine jx (S.grow (j:=0) (m:=1) (new:=encS (gJ s k)) rfl Tryz.t33.1 Tryz.e50E (by decide) Tryz.t33.2.2.2.2.2 B rfl (by decide) rfl (by rw [aI dk,dk,List.length_map,XV];omega)) ?_
     clear S B U J;rintro h v2 S
     simp only [LC]at S
     rw [show((zM k).map (gJ s)).flatMap encS++encS (gJ s k)=((zM (k+1)).map (gJ s)).flatMap encS by rw [List.range_succ,List.map_append,Xn];simp]at S
     have U:Fl v2:=(S.gown _ m0).1.fl
     simp only [BS,LB,Nat.reduceLT,Nat.reduceEqDiff,Nat.reduceAdd]
     refine⟨by simp only [aX,bo,aS,bD,aV,ne_eq,not_false_eq_true,bC,bR,aZ,aW,bZ,cu,aT,Nat.reduceLT,Nat.reduceEqDiff,reduceIte,XK,r0,r2,ac,aD v1,aD u1,aQ v1,aQ u1],?_⟩
     have a0:=(S.gown _ m0).1.sl (xs:=(zM (k+1)).map (gJ s)) rfl dk (by decide)
     have ll:((zM (k+1)).map (gJ s)).length=k+1:=by simp
     obtain⟨c2,o2,Z,V⟩:=a0.ix (kd:=.i64) dk (i:=k) (by omega)
     rw [show((zM (k+1)).map (gJ s))[k]'(by omega)=gJ s k by simp]at V
     have a1:_=some [sv (gJ s k).2]:=gP V (i:=1) (m:=1) (by decide)
     have w2:am .i64 (((k+1:Nat):Int)-1)=(k:Nat):=by rw [wrap64]<;>omega
     refine rV (by kernel_rfl) (n:=11) (by kernel_rfl) (ax rfl) (q:=0) (ps:=[(7,9)]) (by kernel_rfl) ?_
     simp only [Xv,XI,Nat.reduceAdd,Nat.reduceSub,Xk,Xl,Xo,XM,Xd]
     simp only [BS,LB,cls,Nat.reduceLT,Nat.reduceEqDiff,Nat.reduceAdd,Nat.reducePow,Nat.reduceDiv,Nat.reduceMod,Nat.reduceLeDiff,F7,r2,a0.lenq,ll,w2,Z,a1]
     refine eZ (xd S.ok (l:=(gJ s k).2) (by simp [gJ];omega)) ?_
     intro h g
     have kl:=S.key_lt (b:=E) (by simp [keys])
     have v3:=aP g kl
     replace S:=S.call g
     by_cases ad:crc (gJ s k).2=(dE s k).2.2
     . simp only [BS,LB,cls,Nat.reduceLT,Nat.reduceEqDiff,Nat.reduceAdd,Nat.reducePow,Nat.reduceDiv,Nat.reduceMod,Nat.reduceLeDiff,F7,ad,S.ld (b:=E) (o:=2) m0 rfl]
       refine⟨by simp only [aX,bo,aS,bD,aV,ne_eq,not_false_eq_true,bC,bR,aZ,aW,bZ,cu,aT,Nat.reduceLT,Nat.reduceEqDiff,reduceIte,XK,r0,r2,ac,aQ v3,aD v3],?_⟩
       refine al (nI S.ok (c:=24)) ?_;intro h g;replace S:=S.call g;clear g
       simp only [BS,LB,Nat.reduceLT,Nat.reduceEqDiff,r74,w]
       exact ih (k+1) _ _ (by omega) ⟨by omega,v2,S.drop1,fun j hj=>by
        rcases Nat.lt_or_eq_of_le (Nat.le_of_lt_succ hj)with h|rfl
        . exact hc j h
        . exact ad,by simp [aa,r0],by simp [aa],by simp [aa,r72],by simp [aa,r73],by simp [aa]⟩
     . have a5: ¬(((crc (gJ s k).2:Nat):Int)=((dE s k).2.2:Nat)):=by omega
       simp only [BS,LB,cls,Nat.reduceLT,Nat.reduceEqDiff,Nat.reduceAdd,Nat.reducePow,Nat.reduceDiv,Nat.reduceMod,Nat.reduceLeDiff,F7,a5,S.ld (b:=E) (o:=2) m0 rfl]
       refine⟨by simp only [aX,bo,aS,bD,aV,ne_eq,not_false_eq_true,bC,bR,aZ,aW,bZ,cu,aT,Nat.reduceLT,Nat.reduceEqDiff,reduceIte,XK,r0,r2,ac,aQ v3,aD v3],?_⟩
       refine fJ (k9 S.ok (c:=24)) ?_
       rintro _ _ h ⟨rfl,rfl,g⟩
       replace S:=(S.call g).drop1
       simp only [BS,Xg]
       refine du (fW [K] h S fun z S=>?_)
       refine⟨rfl,?_⟩
       unfold DecQ
       rw [yI hh,bodF_no hlt ad]
       exact⟨jT s (k+1),.pointer none,rfl,S.drop1.drop1.sub (List.Sublist.refl _) ((zO _ _).trans (zO _ _))⟩
   . have Y:k=aK s:=by omega
     subst Y
     simp only [BS,LB,Nat.reduceLT,Nat.reduceEqDiff,r2,r73,r74,an,hlt]
     refine fH (fW [K] h S fun z S=>⟨rfl,[v],?_,?_⟩)
     . rfl
     . refine⟨rfl,?_⟩
       unfold DecQ
       rw [yI hh,bodF_ok hc]
       exact⟨jT s (aK s),.pointer none,v,rfl,S.drop1.drop1.sub (List.Sublist.refl _) ((zO _ _).cons_cons _)⟩
end Go.Ab
end
section
namespace Go.Ab
def SlK{a:Type}(h:Hp)(k:Nat)(enc:a->List Value)(v:Value)(xs:List a):Prop:=
 (v=.slice none 0 0/\xs=[])\/ ∃b o c,v=.slice (some ⟨b,o,some k⟩) xs.length c/\xs.length<=c/\h.load b o (xs.length*k)=some (xs.flatMap enc)
section
variable{α:Type}{h h':Hp}{k:Nat}{enc:α->List Value}{v:Value}{xs:List α}{vs:List Value}
theorem SlK.sl(s:SlK h k enc v xs):ay h k enc v xs:=s.imp id fun⟨b,o,c,a,d,e⟩=>⟨b,o,_,c,a,d,e⟩
theorem SlK.gr(g:Gr h h')(s:SlK h k enc v xs):SlK h' k enc v xs:=s.imp id fun⟨b,o,c,a,d,e⟩=>⟨b,o,c,a,d,g.load e⟩
theorem ip.slk(g:ip h (v,k,vs))(e:vs=xs.flatMap enc)(d: ∀x,(enc x).length=k)(i:0<k):SlK h k enc v xs:=by
 rcases g with⟨c,a⟩|⟨b,n,c,a,f⟩
 . simp only []at c a
   refine .inl ⟨c,?_⟩
   subst e
   cases xs with
   |nil=>rfl
   |cons x xs=>have:=congrArg Yb a;rw [Xh,Xa,d]at this;simp only [XI]at this;omega
 . simp only []at c a f
   subst e
   rw [aI d]at a
   have j:n=xs.length:=Nat.eq_of_mul_eq_mul_right i a
   subst j
   refine .inr ⟨b,0,xs.length,c,XE _,?_⟩
   rw [f.load (by rw [aI d];omega),Xd,Xz (by rw [aI d];omega)]
theorem fm_take(a: ∀x,(enc x).length=k)(n:Nat):((xs.flatMap enc).take (n*k))=(xs.take n).flatMap enc:=by
 induction xs generalizing n with
 |nil=>simp
 | cons x xs b=>
   cases n with
   |zero=>simp
   |succ n=>rw [Xh,Xl,Xh,Nat.succ_mul,X8 (n*k) k,<-a x,List.take_length_add_append,a x,b]
theorem fm_drop(a: ∀x,(enc x).length=k)(n:Nat):((xs.flatMap enc).drop (n*k))=(xs.drop n).flatMap enc:=by
 induction xs generalizing n with
 |nil=>simp
 | cons x xs b=>
   cases n with
   |zero=>simp
   |succ n=>rw [Xh,XM,Nat.succ_mul,X8 (n*k) k,<-a x,List.drop_length_add_append,a x,b]
variable{E:Env}{t e:TypeId}{n:Nat}{kd:IntKind}
theorem SlK.to(g:E.und t=some (.slice e))(j:E.sz e=some k)(l: ∀x,(enc x).length=k)(s:SlK h k enc v xs)(f:n<=xs.length): ∃v',cJ E t v none (some (.int kd (n:Int))) none=some v'/\SlK h k enc v' (xs.take n):=by
 have d: ∀n:Nat,fe (n:Int)=some n:=fun n=>rfl
 rcases s with⟨rfl,rfl⟩|⟨b,o,c,rfl,p,q⟩
 . have:n=0:=by simpa using f
   subst this
   refine⟨.slice none 0 0,?_,.inl ⟨rfl,by simp⟩⟩
   simp only [cJ,g,dl,dL,d,j]
   rfl
 . have a:(xs.take n).length=n:=by rw [Xj];omega
   refine⟨.slice (some ⟨b,o,some k⟩) n c,?_,.inr ⟨b,o,c,by rw [a],by rw [a];omega,?_⟩⟩
   . simp only [cJ,g,dl,dL,d,j,Xu (XG f p),cond_true,XZ,XB,Nat.add_zero,Nat.sub_zero]
     cases Nat.beq c 0<;>rfl
   . rw [a]
     have:=gP q (i:=0) (m:=n*k) (by rw [Xk];exact XA k f)
     rw [Nat.add_zero,Xd,fm_take l]at this
     exact this
theorem SlK.mo{M:Nat->Prop}(g:Mo M h h')(s:SlK h k enc v xs)(d: ∀b,aq v b-> ¬M b):SlK h' k enc v xs:=s.imp id fun⟨b,o,c,a,f,i⟩=>⟨b,o,c,a,f,by
 have j: ¬M b:=d b (by subst a;rfl)
 have:=g.get b (bJ g.ok0 i) j
 grind [Hp.load]⟩
theorem SlK.from(f:E.und t=some (.slice e))(g:E.sz e=some k)(p: ∀x,(enc x).length=k)(s:SlK h k enc v xs)(j:n<=xs.length): ∃v',cJ E t v (some (.int kd (n:Int))) none none=some v'/\SlK h k enc v' (xs.drop n)/\ ∀c,aq v' c->aq v c:=by
 have d: ∀n:Nat,fe (n:Int)=some n:=fun n=>rfl
 rcases s with⟨rfl,rfl⟩|⟨b,o,c,rfl,w,q⟩
 . have:n=0:=by simpa using j
   subst this
   refine⟨.slice none 0 0,?_,.inl ⟨rfl,by simp⟩,fun _ h=>h⟩
   simp only [cJ,f,dl,dL,d,g]
   rfl
 . have a:(xs.drop n).length=xs.length-n:=by rw [List.length_drop]
   have r:=gP q (i:=n*k) (m:=(xs.length-n)*k) (by rw [<-Nat.add_mul];exact XA k (by omega))
   rw [fm_drop p,Xz (by rw [aI p,a];exact XE _)]at r
   cases l:Nat.beq c n with
   | false=>
     refine⟨.slice (some ⟨b,o+n*k,some k⟩) (xs.length-n) (c-n),?_,.inr ⟨b,o+n*k,c-n,by rw [a],by rw [a];omega,by rw [a];exact r⟩,fun _ h=>h⟩
     simp only [cJ,f,dl,dL,d,g,Xu j,cond_true,XZ,Ya,cond_false,l]
   | true=>
     have y:=X4 l
     refine⟨.slice (some ⟨b,o,some k⟩) (xs.length-n) (c-n),?_,.inr ⟨b,o,c-n,by rw [a],by rw [a];omega,?_⟩,fun _ h=>h⟩
     . simp only [cJ,f,dl,dL,d,g,Xu j,cond_true,XZ,Ya,cond_false,l]
     . have u:xs.drop n=[]:=XP (by omega)
       rw [u]
       have:=gP q (i:=0) (m:=0) (by omega)
       simpa using this
end
end Go.Ab

end
section
namespace Go.Ab
open Go.Proofs
set_option maxRecDepth 10000
def Tryz.F19:=aj t1<|aj t3<|aj t9<|aj t119<|aj Z17<|aj t128<|Z7
def Tryz.F0o:=aj t1<|aj t2<|aj t3<|aj t4<|aj t5<|aj t9<|aj t20<|aj t29<|aj t33<|Z11
def Tryz.FH:=aj t1<|aj t2<|aj t3<|aj t9<|aj t29<|aj t33<|aj Z11<|aj t118<|aj t119<|aj t122<|aj r122<|aj t128<|Z7
theorem pJ{M:Nat->Prop}{b hq:Hp}{L:List (Nat×Ob)}{G:List GL}(S:St M b hq L G){s:Bs}:
 Ret zB 59 [sv s] hq fun r d=> ∃a,r=ptrTo a/\St M b d ((a,.row (rdC s 0 (.pointer none)) 1)::L) G:=by
 have f:=S.ok
 refine ab (n:=6) (rs:=[.tmp 2]) rfl Tryz.e59 rfl rfl rfl (lbt rfl) ?_
 simp only [BS,LB,Nat.reduceLT,Nat.reduceEqDiff,Nat.reduceAdd,F19,qq (l:=s)]
 refine ag (bU (by intro x e;cases e)) S ?_;clear S;intro h a S c;simp only [ah]at S
 simp only [BS,LB,ae,Nat.reduceLT,Nat.reduceEqDiff]
 exact⟨_,rfl,S⟩
theorem fDec1_ok{a:Hp}(b:a.t.Sized a.n){c d:Nat}:dQ zB 58 [ptrTo c,ptrTo d] none a fun o e f=>(∃v,o=.ret v)/\e=none/\Gr a f:=by
 have S:=Si b
 refine enter (n:=17) (rs:=[]) rfl Tryz.e58 rfl rfl rfl (lbt rfl) ?_
 simp only [BS,LB,Nat.reduceLT,Nat.reduceEqDiff,F0o]
 exact di (cL ⟨rfl,_,rfl,⟨_,rfl⟩,rfl,S.gr⟩)
theorem fDec1_no{M:Nat->Prop}{e hq:Hp}{L:List (Nat×Ob)}{G:List GL}{a b i j:Nat}{u w:Value}(S:St M e hq L G)(f:L[i]? =some (a,.row [u] 1))(g:L[j]? =some (b,.row [w] 1))(d:i≠j){c:Int}:
 dQ zB 58 [ptrTo a,ptrTo b] (some (.iface 29 (.int .i64 c),false)) hq fun o k l=>(∃v,o=.ret v)/\k=some (.iface 29 (.int .i64 c),true)/\St M e l ((L.set i (a,.row [.slice none 0 0] 1)).set j (b,.row [.int .i64 c] 1)) G:=by
 have m:=S.ok
 refine enter (n:=17) (rs:=[]) rfl Tryz.e58 rfl rfl rfl (lbt rfl) ?_
 simp only [BS,LB,Nat.reduceLT,Nat.reduceEqDiff,F0o]
 refine aw (ar S (i:=i) f Tryz.t33.2.2.1 cd (Xb (lbt rfl)) ono) ?_
 clear S;rintro h ⟨S,_⟩
 simp only [BS,LB,Nat.reduceLT,Nat.reduceEqDiff]
 refine aw (ar S (i:=j) (by rw [List.getElem?_set_ne d];exact g) Tryz.t29.2.2.1 cg (Xb (lbt rfl)) ono) ?_
 clear S;rintro h ⟨S,_⟩
 simp only [BS]
 exact di (cL ⟨rfl,_,rfl,⟨_,rfl⟩,rfl,S⟩)
theorem Cd{d:Hp}(ok:d.t.Sized d.n){s:Bs}(A:s.length<=1000000):Ret zB 18 [sv s] d fun r k=>Gr d k/\match decF s with
 | .ok l=> ∃v,r=.tuple #[v,.int .i64 0]/\SlK k 2 encS v l/\ ∀c,aq v c->d.n<=c
 | .error e=>r=.tuple #[.slice none 0 0,.int .i64 (if e=true then 24 else 23)]:=by
 have S:=Si ok
 refine ab (n:=13) (rs:=[.cell 2 33,.cell 3 29]) rfl Tryz.e18 rfl rfl rfl (lbt rfl) ?_
 simp only [BS,FH]
 refine ag av S ?_;clear S;intro h C S q
 simp only [BS,FH]
 refine ag av S ?_;clear S;intro h D S t
 simp only [BS,LB,Nat.reduceLT,Nat.reduceEqDiff]
 refine step_ret (pJ S) ?_
 rintro _ h ⟨E,rfl,S⟩
 simp only [BS,LB,Nat.reduceLT,Nat.reduceEqDiff,Nat.reduceAdd,FH,qq (l:=s)]
 refine ag (bU (by intro x e;cases e)) S ?_;clear S;intro h B S m;simp only [ah]at S
 simp only [BS,LB,Nat.reduceLT,Nat.reduceEqDiff]
 refine fJ (decode_ok S A) ?_
 rintro o u h ⟨rfl,P⟩
 unfold DecQ at P
 obtain⟨a,f,P⟩:=P
 cases w:decF s with
 | error e=>
   simp only [w]at P
   obtain⟨rfl,S⟩:=P
   simp only [BS]
   refine du (un_fn_pan (eJ (fDec1_no S (i:=3) (j:=2) rfl rfl (by decide)) fun o u k ⟨a,e,S⟩=>⟨a,_,_,e,cL ?_⟩))
   simp only [LC,Xh,Xm]at S
   simp only [if_true]
   refine(gf (by decide) (by simp only [aT,ac,Nat.reduceEqDiff,reduceIte];exact lN Tryz.t33.2.1 (S.ld m3 rfl))).2 ?_
   refine(gf (by decide) (by simp only [aT,ac,Nat.reduceEqDiff,reduceIte];exact lN Tryz.t29.2.1 (S.ld m2 rfl))).2 ?_
   exact ib.2 ⟨S.gr,rfl⟩
 | ok l=>
   simp only [w]at P
   obtain⟨v,rfl,S⟩:=P
   simp only [BS,LB,Nat.reduceLT,Nat.reduceEqDiff]
   have F:Fl v:=(S.gown _ m0).1.fl
   refine aw (ar S (i:=3) rfl ?_ ?_ ?_ ono) ?_
   . exact(by simp only [FH])
   . exact(by assumption)
   . exact Xb (lbt rfl)
   clear S;rintro h ⟨S,p⟩;clear p;simp only [LC,ah,lay,Xx,Xy,Nat.reduceAdd]at S
   simp only [BS,LB,Nat.reduceLT,Nat.reduceEqDiff]
   refine aw (ar S (i:=2) rfl ?_ ?_ ?_ ono) ?_
   . exact(by simp only [FH])
   . exact(by exact cg)
   . exact Xb (lbt rfl)
   clear S;rintro h ⟨S,p⟩;clear p;simp only [LC,ah,lay,Xx,Xy,Nat.reduceAdd]at S
   simp only [BS]
   refine fH (un_fn (eJ (fDec1_ok S.ok) fun o u k ⟨a,e,g⟩=>⟨a,e,cL ⟨rfl,?_⟩⟩))
   replace S:=S.call g
   refine(gf (by decide) (by simp only [aT,ac,Nat.reduceEqDiff,reduceIte];exact lN Tryz.t33.2.1 (S.ld m3 rfl))).2 ?_
   refine(gf (by decide) (by simp only [aT,ac,Nat.reduceEqDiff,reduceIte];exact lN Tryz.t29.2.1 (S.ld m2 rfl))).2 ?_
   exact ib.2 ⟨S.gr,v,rfl,(S.gown _ m0).1.slk rfl dk (by decide),fun c y=>by
    have z:=S.gown _ m0
    rcases z.1 with⟨e,_⟩|⟨b,n,e,_⟩
    . have e:v=_:=e;subst e;exact y.elim
    . have e:v=.slice (some ⟨b,0,some 2⟩) n n:=e;subst e;exact(z.2 b rfl).elim (fun h=>by have:c=b:=y.symm;omega) (fun h=>h.elim)⟩
end Go.Ab
end
section
namespace Go.Ab
structure Tab where
 l:List Int
 to:List (List Int)
 fr:List (List Int)
structure Img where
 g:Gra
 T:Option Tab
 C:Option (List Int×Bs)
theorem yu{a:Type}{p:a->Bs}{w:Nat}(l:List a)(b: ∀x∈l,(p x).length=w):(l.flatMap p).length=w*l.length:=by
 induction l with
 |nil=>rfl
 |cons x l c=>rw [Xh,Xa,b x (by simp),c (fun y d=>b y (by simp [d])),Xv,Nat.mul_succ];omega
theorem CG{a:Type}{f:Bs->a}{p:a->Bs}{w:Nat}(l:List a)(c: ∀x∈l,(p x).length=w)(h: ∀x∈l,f (p x)=x)(r:Bs):d7 f w l.length (l.flatMap p++r)=l:=by
 induction l with
 |nil=>rfl
 | cons x l d=>
   have e:=c x (by simp)
   rw [Xh,Xs,Xv,d7,List.take_left' e,X3 e,h x (by simp),d (fun y b=>c y (by simp [b])) (fun y b=>h y (by simp [b]))]
def mix:List (List Int)->List (List Int)->List (List Int)
 |a::l,b::m=>a::b::mix l m
 |_,_=>[]
def rP:List (List Int)->List (List Int)
 |a::_::l=>a::rP l
 |l=>l
def odds:List (List Int)->List (List Int)
 |_::b::l=>b::odds l
 |_=>[]
theorem uc{l m:List (List Int)}(h:l.length=m.length):(mix l m).length=2*l.length:=by
 induction l generalizing m with
 |nil=>cases m<;>rfl
 | cons a l c=>
   cases m with
   |nil=>cases h
   |cons b m=>simp only [mix,Xv];rw [c (by simpa using h)];omega
theorem evens_mix{l m:List (List Int)}(h:l.length=m.length):rP (mix l m)=l/\odds (mix l m)=m:=by
 induction l generalizing m with
 | nil=>cases m with
   |nil=>exact⟨rfl,rfl⟩
   |cons _ _=>cases h
 | cons a l c=>
   cases m with
   |nil=>cases h
   |cons b m=>obtain⟨d,e⟩:=c (m:=m) (by simpa using h);exact⟨by simp only [mix,rP,d],by simp only [mix,odds,e]⟩
theorem xN{l m:List (List Int)}{x:List Int}(h:x∈mix l m):x∈l\/x∈m:=by
 induction l generalizing m with
 |nil=>cases m<;>cases h
 | cons a l c=>
   cases m with
   |nil=>cases h
   | cons b m=>
     simp only [mix,List.mem_cons]at h⊢
     rcases h with h|h|h
     . exact .inl (.inl h)
     . exact .inr (.inl h)
     . exact(c h).imp .inr .inr
def oh(v:Int):Bs:=aR 4 v.toNat
def markG(s:Bs):Int:=(bz s:Int)
theorem oF(v:Int):(oh v).length=4:=aJ 4 _
def oR(r:List Int):Bs:=r.flatMap put8
def fK(T:Tab):Bs:=aR 1 T.l.length++(T.l.flatMap oh++(mix T.to T.fr).flatMap oR)
def rY(s:Bs):Nat:=bz (s.take 1)
def qE(N:Nat)(s:Bs):List (List Int):=d7 (d7 la 8 N) (8*N) (2*rY s) (s.drop (1+4*rY s))
def tabG(N:Nat)(s:Bs):Tab:=⟨d7 markG 4 (rY s) (s.drop 1),rP (qE N s),odds (qE N s)⟩
structure TabL(N:Nat)(T:Tab):Prop where
 l1:1<=T.l.length
 l2:T.l.length<=16
 to:T.to.length=T.l.length
 fr:T.fr.length=T.l.length
 rTo: ∀r∈T.to,r.length=N/\ ∀x∈r,0<=x/\x<=72057594037927936
 rFr: ∀r∈T.fr,r.length=N/\ ∀x∈r,0<=x/\x<=72057594037927936
 rl: ∀x∈T.l,0<=x/\x<4294967296
theorem uO{N:Nat}{r:List Int}(h:r.length=N):(oR r).length=8*N:=by unfold oR;rw [dJ nv,h]
theorem Ah{N:Nat}{T:Tab}(h:TabL N T):(fK T).length=1+T.l.length*(4+16*N):=by
 have c: ∀r∈mix T.to T.fr,r.length=N:=fun r a=>(xN a).elim (fun b=>(h.rTo r b).1) (fun b=>(h.rFr r b).1)
 have:=h.to
 have:=h.fr
 unfold fK
 rw [Xa,Xa,aJ,dJ oF,yu _ (fun r a=>uO (c r a)),uc (by omega),h.to,Nat.mul_add,Nat.mul_left_comm (8*N),XY (8*N),<-X7,XY T.l.length 4,show T.l.length*(16*N)=2*T.l.length*(8*N) by rw [show 16*N=2*(8*N) by omega,<-X7,XY T.l.length 2],<-X7]
theorem tabG_tabB{N:Nat}{T:Tab}(h:TabL N T):rY (fK T)=T.l.length/\tabG N (fK T)=T:=by
 have g: ∀r∈mix T.to T.fr,r.length=N/\ ∀x∈r,0<=x/\x<=72057594037927936:=fun r a=>(xN a).elim (fun c=>h.rTo r c) (fun c=>h.rFr r c)
 have d:=h.to
 have k:=h.fr
 have n:=h.l2
 have i:rY (fK T)=T.l.length:=by unfold rY fK;rw [List.take_left' (aJ 1 _),fZ (by omega)]
 have j:(fK T).drop 1=T.l.flatMap oh++(mix T.to T.fr).flatMap oR:=by unfold fK;exact X3 (aJ 1 _)
 have o:(fK T).drop (1+4*T.l.length)=(mix T.to T.fr).flatMap oR:=by rw [<-XN,j];exact X3 (by rw [dJ oF])
 have q:d7 markG 4 T.l.length (T.l.flatMap oh++(mix T.to T.fr).flatMap oR)=T.l:=qA oF T.l (fun x e=>by
  have:=h.rl x e
  unfold markG oh
  rw [fZ (by omega)];omega) _
 have s:d7 (d7 la 8 N) (8*N) (2*T.l.length) ((mix T.to T.fr).flatMap oR)=mix T.to T.fr:=by
  have:=CG (f:=d7 la 8 N) (p:=oR) (w:=8*N) (mix T.to T.fr) (fun r a=>uO (g r a).1) (fun r a=>by
   have b:=g r a
   have:=qA (f:=la) nv r (fun x e=>sX (by have:=b.2 x e;omega)) []
   rw [Xq,b.1]at this
   exact this) []
  rw [Xq,uc (by omega),d]at this
  exact this
 refine⟨i,?_⟩
 obtain⟨m1,m2⟩:=evens_mix (l:=T.to) (m:=T.fr) (by omega)
 unfold tabG qE
 rw [i,j,o,q,s,m1,m2]
def fU(m:List Int):Bs:=m.map fun c=>UInt8.ofNat c.toNat
def dP(I:Img):List Sec:=(1,fj I.g)::((match I.T with|some T=>[(2,fK T)]|none=>[])++(match I.C with|some (m,f)=>[(3,fU m),(4,f)]|none=>[]))
end Go.Ab

end
section
namespace Go.Ab
open Go.Proofs
set_option maxRecDepth 10000
def Tryz.F1a:=aj t1<|aj t2<|aj t3<|Z4
def Tryz.F1b:=aj t1<|aj t2<|aj t3<|Z4
def Tryz.Fc:=aj t1<|aj t2<|aj t3<|aj t4<|aj t5<|aj t6<|aj Z0<|aj Z2<|aj t9<|aj t10<|aj t11<|aj t12<|aj Z6<|aj Z10<|aj t15<|aj t16<|aj t17<|aj Z23<|aj Z22<|aj t20<|aj t23<|aj t35<|aj Z1<|aj t38<|aj t58<|aj Z4<|aj t157<|aj t162<|aj t209<|aj t268<|aj Z15<|aj t355<|aj t357<|aj t359<|aj t360<|aj t361<|aj t362<|Z18
theorem slice_at{E:Env}{t e:TypeId}{b k len cap l m:Nat}{a c d:IntKind}(i:E.und t=some (.slice e))(j:E.sz e=some k)(f:l<=m)(o:m<=cap):
 cJ E t (.slice (some ⟨b,0,none⟩) len cap) (some (.int a (l:Int))) (some (.int c (l:Int))) (some (.int d (m:Int)))=some (.slice (some ⟨b,if m=l then 0 else l*k,none⟩) 0 (m-l)):=by
 have g: ∀n:Nat,fe (n:Int)=some n:=fun n=>rfl
 simp only [cJ,i,dl,dL,g,Xu o,Xu f,Xu (XE l),cond_true,j,X9,Option.map]
 by_cases h:m=l
 . subst h;rw [XZ];simp
 . have:Nat.beq m l=false:=by
    cases p:Nat.beq m l with
    |false=>rfl
    |true=>exact absurd (X4 p) h
   rw [this,if_neg h];simp [gG]
theorem St.fill{M:Nat->Prop}{m h:Hp}{L:List (Nat×Ob)}{G:List GL}(S:St M m h L G){E:Env}{t n e:TypeId}{d i b off len cap md:Nat}{u l:List Value}{s:Option Nat}{x v:Value}(p:L[i]? =some (b,.row l md))(w:E.und t=some (.slice e))(z:dK E e d 1 u)
 (A:dR E n=some false) (a:aA h 1 x=some (1,[v])) (B:Fl v) (I:len<cap) (C:off+len<l.length) (f:md≠0) {ts:List TypeId}:
 ∃g,dp E h (t::n::ts) (.slice (some ⟨b,off,s⟩) len cap) x=some (g,.slice (some ⟨b,off,s⟩) (len+1) cap)/\St M m g (L.set i (b,.row (l.set (off+len) v) md)) G/\Mo (· =b) h g:=by
 obtain⟨⟨J,k,rfl,c⟩,K,D⟩:=z
 have F:=S.row (Xc p)
 obtain⟨y,H,q⟩:=F.store S.ok f (o:=off+len) (vs:=[v]) (by simp;omega) (by simp [B.2.1])
 have e:lay l (off+len) [v]=l.set (off+len) v:=by
  refine List.ext_getElem? fun j=>?_
  rw [jG (by simp;omega),List.getElem?_set]
  simp only [Xv,XI]
  by_cases r:off+len=j
  . subst r;rw [if_pos ⟨XE _,by omega⟩,if_pos rfl,if_pos C];simp
  . rw [if_neg (by omega),if_neg r]
 rw [e]at q
 refine⟨h.put b y,?_,S.put p q,(Mo.refl (M:=(· =b)) S.ok).put (.inr rfl) y⟩
 simp only [dp,A,jL,w,k,c,a]
 unfold fG
 rw [Xu (by omega:len+1<=cap)]
 simp only [cond_true,c,Xi,H]
theorem note_runq{ρ:Operand->Value}{f:Operand}{xs:Array Operand}{ts:Array TypeId}{h a:Hp}:cE ρ true (.call ⟨.value f,xs,ts⟩) h a=none:=rfl
theorem yt{i:Nat}:cG i []=none:=rfl
theorem pair_n{x:Option Tch}:kr none x=true:=rfl
def KeyF(E:Env)(g:FuncId)(f:Arc->Nat):Prop:= ∀(h:Hp) (a:Arc),h.t.Sized h.n->bG E g [.agg ⟨cD a⟩] h (.int .i64 (f a))
theorem of2_key:KeyF zB 130 Arc.s:=by
 intro f a c
 have S:=Si c
 refine ab (n:=5) (rs:=[.tmp 2]) rfl Tryz.e130 rfl rfl rfl (lbt rfl) ?_
 simp only [BS,Nat.reduceLT,cD]
 refine ag (bU (by intro x e;cases e)) S ?_;clear S;intro h b S d;simp only [ah]at S
 simp only [BS,LB,ae,Nat.reduceLT,Nat.reduceEqDiff,F1a,S.ld (b:=b) (o:=0) m0 rfl]
 exact S.gr
theorem of3_key:KeyF zB 131 Arc.t:=by
 intro f a c
 have S:=Si c
 refine ab (n:=5) (rs:=[.tmp 2]) rfl Tryz.e131 rfl rfl rfl (lbt rfl) ?_
 simp only [BS,Nat.reduceLT,cD]
 refine ag (bU (by intro x e;cases e)) S ?_;clear S;intro h b S d;simp only [ah]at S
 simp only [BS,LB,ae,Nat.reduceLT,Nat.reduceEqDiff,F1b,S.ld (b:=b) (o:=1) m0 rfl]
 exact S.gr
theorem qk(A:List Arc)(f:Arc->Nat)(j v:Nat):(outs A f j v).length<=j:=by
 unfold outs
 exact XG (List.length_filter_le _ _) (by simp)
theorem xx(z:Value)(N:Nat):aU [z] ((N:Int)).toNat=(zM N).map fun _=>z:=by
 rw [XO]
 have: ∀n,aU [z] n=List.replicate n z:=by
  intro n
  induction n with
  |zero=>rfl
  |succ n a=>simp [aU,a,List.replicate_succ]
 rw [this,List.map_const',XV]
def ng(A:List Arc)(f:Arc->Nat)(i v:Nat):Value:=.int .i64 ((outs A f i v).length:Nat)
def ig(A:List Arc)(f:Arc->Nat)(b v n:Nat):Value:=.slice (some ⟨b,if(outs A f A.length v).length=0 then 0 else start A f v,none⟩) n (outs A f A.length v).length
theorem cnt_set{A:List Arc}{f:Arc->Nat}{N i:Nat}(c:i<A.length):((zM N).map (ng A f i)).set (f A[i]) (.int .i64 (((outs A f i (f A[i])).length+1:Nat):Int))=(zM N).map (ng A f (i+1)):=by
 have b:A.getD i default=A[i]:=by simp [XL,c]
 have e:(.int .i64 (((outs A f i (f A[i])).length+1:Nat):Int):Value)=ng A f (i+1) (f A[i]):=by
  unfold ng;rw [iI,b,if_pos rfl,Xa];rfl
 rw [e]
 refine kA fun v d a=>?_
 unfold ng
 rw [iI,b,if_neg (fun e=>a e.symm),Xq]
def wg(A:List Arc)(f:Arc->Nat)(N i:Nat)(cs:List Value):Prop:=
 cs.length=A.length/\ ∀v r x,v<N->(outs A f i v)[r]? =some x->cs[start A f v+r]? =some (.int .i64 (x:Nat))
theorem fill_zero{A:List Arc}{f:Arc->Nat}{N:Nat}:wg A f N 0 ((zM A.length).map fun _=>.int .i64 0):=
 ⟨by simp,fun v r x _ h=>by simp [outs]at h⟩
theorem fill_step{A:List Arc}{f:Arc->Nat}{N i:Nat}{cs:List Value}(h:wg A f N i cs)(k:i<A.length):wg A f N (i+1) (cs.set (start A f (f A[i])+(outs A f i (f A[i])).length) (.int .i64 (i:Nat))):=by
 have c:A.getD i default=A[i]:=by simp [XL,k]
 have g:(outs A f (i+1) (f A[i])).length<=(outs A f A.length (f A[i])).length:=xP A f (by omega) _
 rw [iI,c,if_pos rfl,Xa]at g
 have hlt:(outs A f i (f A[i])).length<(outs A f A.length (f A[i])).length:=by simp at g;omega
 have l:=qH A f (f A[i])
 refine⟨by rw [List.length_set];exact h.1,fun v r x m a=>?_⟩
 have n:r<(outs A f (i+1) v).length:=(List.getElem?_eq_some_iff.1 a).1
 have d:r<(outs A f A.length v).length:=Nat.lt_of_lt_of_le n (xP A f (by omega) v)
 rw [List.getElem?_set]
 by_cases e:start A f (f A[i])+(outs A f i (f A[i])).length=start A f v+r
 . obtain⟨b,o⟩:=Bf A f hlt d e
   subst b
   rw [if_pos e,if_pos (by rw [h.1];omega)]
   rw [iI,c,if_pos rfl,X6,if_neg (by omega),o,X9]at a
   simp at a
   rw [a]
 . rw [if_neg e]
   refine h.2 v r x m ?_
   rw [iI,c]at a
   by_cases b:f A[i]=v
   . rw [if_pos b,X6]at a
     subst b
     by_cases j:r<(outs A f i (f A[i])).length
     . rw [if_pos j]at a;exact a
     . rw [if_neg j]at a
       have:=(List.getElem?_eq_some_iff.1 a).1
       simp at this
       exact absurd (by omega) e
   . rw [if_neg b,Xq]at a;exact a
theorem of1_ok {t:Hp} (ok:t.t.Sized t.n) {y:Gra} (K:fo y) {vx vy L:Value} {b:Nat} (hb:Row t b [.int .i64 y.nodes,vx,vy,L] 1) (ga:cZ t vx vy L y) {g:FuncId} {f:Arc->Nat} (hk:KeyF zB g f) (hf: ∀a∈y.arcs,f a<y.nodes):
 Ret zB 129 [.func (.func g) #[] #[],ptrTo b] t fun v Z=>Gr t Z/\gU Z t.n v y.nodes (outs y.arcs f y.arcs.length):=by
 have S:=Si ok
 have n2:=K.n2
 have M:=K.many
 obtain⟨N,X,Y,A⟩:=y
 simp only []at hb n2 M hf
 have O:ay t 3 cD L A:=ga.A
 have l0:=hb.load1 (o:=0) rfl
 have l3:=hb.load1 (o:=3) rfl
 refine ab (n:=85) (rs:=[.tmp 3]) rfl Tryz.e129 rfl rfl rfl (lbt rfl) ?_
 simp only [BS,LB,Nat.reduceLT,Nat.reduceEqDiff,Fc,l0]
 refine ag (j8 (by exact Tryz.t38.1) (by exact X2) (by omega) (by omega)) S ?_;clear S;intro h C S aL
 rw [xx]at S
 replace S:St NoM t h [(C,.row ((zM N).map (ng A f 0)) 1)] []:=S
 simp only [BS,LB,Nat.reduceLT,Nat.reduceEqDiff,Fc,S.old l3 (fun h=>h),O.lenq,XO]
 refine az (fun(i:Nat) m h=>i<=A.length/\St NoM t h [(C,.row ((zM N).map (ng A f i)) 1)] []/\m 0=.func (.func g) #[] #[]/\m 1=ptrTo b/\m 4=.slice (some ⟨C,0,none⟩) N N/\m 18=L/\m 19=.int .i64 A.length/\m 20=.int .i64 i) (fun i=>A.length-i) ?_ 0 _ _ ?_
 . clear S
   intro i Q m h ⟨hi,S,r0,r1,r4,r18,r19,r20⟩
   by_cases hlt:i<A.length
   . obtain⟨c,o,u,D⟩:=(O.gr S.gr).ix (kd:=.i64) eo hlt
     have p:f A[i]<N:=hf _ (XQ hlt)
     have a5:=qk A f i (f A[i])
     have w:am .i64 ((i:Int)+1)=((i+1:Nat):Int):=by rw [wrap64]<;>omega
     have w2:am .i64 (((outs A f i (f A[i])).length:Int)+1)=(((outs A f i (f A[i])).length+1:Nat):Int):=by rw [wrap64]<;>omega
     simp only [BS,LB,Nat.reduceLT,Nat.reduceEqDiff,Fc,r18,r19,r20,an,hlt,u,D]
     refine ag av S ?_;clear S;intro h b6 S a0
     simp only [BS,LB,Nat.reduceLT,Nat.reduceEqDiff,cD]
     refine aw (S.store (i:=0) rfl ?_ ?_ rfl rfl ?_ ono) ?_
     . exact(by exact Tryz.t90.2.1)
     . exact(by intro x e;cases e)
     . exact lbt rfl
     clear S;rintro h ⟨S,z⟩;clear z;simp only [LC,ah,lay,Xx,Xy,Nat.reduceAdd]at S
     simp only [BS,LB,Nat.reduceLT,Nat.reduceEqDiff,Fc,r0,r4,S.lds (b:=b6) (o:=0) (n:=3) m0 (lbt rfl)]
     refine al (hk _ A[i] S.ok) ?_;intro h g;replace S:=S.call g;clear g
     have E:=S.ld (b:=C) (o:=f A[i]) m1 (mS (F:=ng A f i) p)
     unfold ng at E
     simp only [BS,LB,Nat.reduceLT,Nat.reduceEqDiff,Fc,p,E,w2]
     refine aw (ar S (i:=1) rfl Tryz.t3.2.2.1 cg (by simpa using p) ono) ?_
     clear S E;rintro h ⟨S,z⟩;clear z
     simp only [LC]at S
     rw [cnt_set hlt]at S
     replace S:=S.drop1
     simp only [BS,LB,Nat.reduceLT,Nat.reduceEqDiff,r20,w]
     exact Q (i+1) _ _ (by omega) ⟨by omega,S,by simp [aa,r0],by simp [aa,r1,ac],by simp [aa,r4],by simp [aa,r18],by simp [aa,r19],by simp [aa]⟩
   . have G : i=A.length:=by omega
     subst G
     simp only [BS,LB,Nat.reduceLT,r19,r20,an,hlt]
     refine au (ax rfl) (q:=72) (ps:=[]) (by kernel_rfl) ?_
     simp only [BS,LB,cls,Nat.reduceLT,Nat.reduceEqDiff,Nat.reduceAdd,Nat.reducePow,Nat.reduceDiv,Nat.reduceMod,Nat.reduceLeDiff,Fc,r1,S.old l3 (fun h=>h),O.lenq]
     refine ec (j8 (by exact Tryz.t38.1) (by exact X2) (by omega) (by omega)) S ?_;clear S;intro h d S R a1
     rw [xx]at S
     simp only [BS,LB,cls,Nat.reduceLT,Nat.reduceEqDiff,Nat.reduceAdd,Nat.reducePow,Nat.reduceDiv,Nat.reduceMod,Nat.reduceLeDiff,Fc,r1,S.old l0 (fun h=>h),XO]
     refine ec (j8 (by exact Tryz.t162.1) (by exact Tryz.e38E) (by omega) (by omega)) S ?_;clear S;intro h I S T a2
     rw [xx]at S
     simp only [BS,LB,cls,Nat.reduceLT,Nat.reduceEqDiff,Nat.reduceAdd,Nat.reducePow,Nat.reduceDiv,Nat.reduceMod,Nat.reduceLeDiff,Fc,r4,XO]
     have e0:(zM N).map (fun v=>if v<0 then ig A f d v 0 else .slice none 0 0)=(zM N).map (fun _=>(.slice none 0 0:Value)):=by simp
     rw [<-e0]at S
     refine az (fun(j:Nat) m h=>j<=N/\St NoM t h [(I,.row ((zM N).map fun v=>if v<j then ig A f d v 0 else .slice none 0 0) 1),(d,.row ((zM A.length).map fun _=>.int .i64 0) 1),(C,.row ((zM N).map (ng A f A.length)) 1)] []/\
      m 0=.func (.func g) #[] #[]/\m 1=ptrTo b/\m 7=.slice (some ⟨d,0,none⟩) A.length A.length/\m 8=.slice (some ⟨I,0,none⟩) N N/\m 9=.int .i64 (start A f j)/\m 40=.slice (some ⟨C,0,none⟩) N N/\m 41=.int .i64 N/\m 42=.int .i64 j) (fun j=>N-j) ?_ 0 _ _ ?_
     . clear S r0 r1 r4 r18 r19 r20
       intro j Q m h ⟨hj,S,r0,r1,r7,r8,r9,r40,r41,r42⟩
       by_cases B:j<N
       . have E:=S.ld (b:=C) (o:=j) m2 (mS (F:=ng A f A.length) B)
         unfold ng at E
         have ad:=qH A f j
         have w:am .i64 ((j:Int)+1)=((j+1:Nat):Int):=by rw [wrap64]<;>omega
         have w2:am .i64 ((start A f j:Int)+((outs A f A.length j).length:Nat))=((start A f j+(outs A f A.length j).length:Nat):Int):=by rw [wrap64]<;>omega
         have sl:cJ zB 38 (.slice (some ⟨d,0,none⟩) A.length A.length) (some (.int .i64 (start A f j))) (some (.int .i64 (start A f j))) (some (.int .i64 ((start A f j+(outs A f A.length j).length:Nat):Int)))=some (ig A f d j 0):=by
          rw [slice_at Tryz.t38.1 Tryz.t3.2.2.1 (by omega) (by omega)]
          unfold ig
          rw [Nat.add_sub_cancel_left,Xi]
          by_cases H:(outs A f A.length j).length=0
          . rw [if_pos (by omega),if_pos H]
          . rw [if_neg (by omega),if_neg H]
         have fr:Fl (ig A f d j 0):=cd
         simp only [BS,LB,Nat.reduceLT,Nat.reduceEqDiff,XD,Fc,r7,r8,r9,r40,r41,r42,an,B,E,w2,sl]
         refine aw (ar S (i:=0) rfl Tryz.t38.2.2.1 fr (by simpa using B) ono) ?_
         clear S E;rintro h ⟨S,z⟩;clear z
         simp only [LC]at S
         rw [show((zM N).map fun v=>if v<j then ig A f d v 0 else .slice none 0 0).set j (ig A f d j 0)=(zM N).map fun v=>if v<j+1 then ig A f d v 0 else .slice none 0 0 from by
          have:=kA (N:=N) (k:=j) (F:=fun v=>if v<j then ig A f d v 0 else .slice none 0 0) (F':=fun v=>if v<j+1 then ig A f d v 0 else .slice none 0 0) (fun v J U=>by
           show ite _ _ _=ite _ _ _
           by_cases h1:v<j
           . rw [if_pos h1,if_pos (by omega)]
           . rw [if_neg h1,if_neg (by omega)])
          simp only [if_pos (show j<j+1 by omega)]at this
          exact this]at S
         simp only [BS,LB,Nat.reduceLT,Nat.reduceEqDiff,r9,r42,w,w2]
         exact Q (j+1) _ _ (by omega) ⟨by omega,S,by simp [aa,r0],by simp [aa,r1,ac],by simp [aa,r7],by simp [aa,r8],by simp [aa,start],by simp [aa,r40],by simp [aa,r41],by simp [aa]⟩
       . have af:j=N:=by omega
         subst af
         simp only [BS,LB,Nat.reduceLT,Nat.reduceEqDiff,Fc,r1,r41,r42,an,B,S.old l3 (fun h=>h),O.lenq]
         have e1:((zM j).map fun v=>if v<j then ig A f d v 0 else .slice none 0 0)=(zM j).map fun v=>ig A f d v (outs A f 0 v).length:=by
          refine XS fun v J=>?_
          rw [if_pos (List.mem_range.1 J)];rfl
         rw [e1]at S
         refine az (fun(i:Nat) m h=>i<=A.length/\(∃cs,wg A f j i cs/\St NoM t h [(I,.row ((zM j).map fun v=>ig A f d v (outs A f i v).length) 1),(d,.row cs 1),(C,.row ((zM j).map (ng A f A.length)) 1)] [])/\
          m 0=.func (.func g) #[] #[]/\m 1=ptrTo b/\m 8=.slice (some ⟨I,0,none⟩) j j/\m 62=L/\m 63=.int .i64 A.length/\m 64=.int .i64 i) (fun i=>A.length-i) ?_ 0 _ _ ?_
         . clear S r0 r1 r7 r8 r9 r40 r41 r42
           intro i Q m h ⟨hi,⟨cs,hcs,S⟩,r0,r1,r8,r62,r63,r64⟩
           by_cases hlt:i<A.length
           . obtain⟨c,o,u,D⟩:=(O.gr S.gr).ix (kd:=.i64) eo hlt
             have p:f A[i]<j:=hf _ (XQ hlt)
             have w:am .i64 ((i:Int)+1)=((i+1:Nat):Int):=by rw [wrap64]<;>omega
             simp only [BS,LB,Nat.reduceLT,Nat.reduceEqDiff,Fc,r62,r63,r64,an,hlt,u,D]
             refine ag av S ?_;clear S;intro h V S ai
             simp only [BS,LB,Nat.reduceLT,Nat.reduceEqDiff,cD]
             refine aw (S.store (i:=0) rfl ?_ ?_ rfl rfl ?_ ono) ?_
             . exact(by exact Tryz.t90.2.1)
             . exact(by intro x e;cases e)
             . exact lbt rfl
             clear S;rintro h ⟨S,z⟩;clear z;simp only [LC,ah,lay,Xx,Xy,Nat.reduceAdd]at S
             simp only [BS]
             refine au (ax rfl) (q:=2184) (ps:=[(3,6)]) (by kernel_rfl) ?_
             simp only [BS,LB,cls,Nat.reduceLT,Nat.reduceEqDiff,Nat.reduceAdd,Nat.reducePow,Nat.reduceDiv,Nat.reduceMod,Nat.reduceLeDiff,Fc,r0,r8,S.lds (b:=V) (o:=0) (n:=3) m0 (lbt rfl)]
             refine dq_pure (hk _ A[i] S.ok) ?_
             intro h W;replace S:=S.call W;clear W
             simp only [BS,LB,cls,Nat.reduceLT,Nat.reduceEqDiff,Nat.reduceAdd,Nat.reducePow,Nat.reduceDiv,Nat.reduceMod,Nat.reduceLeDiff,Fc,r0,r8,S.lds (b:=V) (o:=0) (n:=3) m0 (lbt rfl)]
             refine dq_pure (hk _ A[i] S.ok) ?_
             intro h W;replace S:=S.call W;clear W
             have hd:A.getD i default=A[i]:=by simp [XL,hlt]
             have hl:(outs A f (i+1) (f A[i])).length<=(outs A f A.length (f A[i])).length:=xP A f (by omega) _
             rw [iI,hd,if_pos rfl,Xa,List.length_singleton]at hl
             have ad:=qH A f (f A[i])
             have hK:(outs A f A.length (f A[i])).length≠0:=by omega
             have lr:=S.ld (b:=I) (o:=f A[i]) m1 (mS (F:=fun v=>ig A f d v (outs A f i v).length) p)
             simp only [ig,if_neg hK]at lr
             simp only [BS,LB,cls,Nat.reduceLT,Nat.reduceEqDiff,Nat.reduceAdd,Nat.reducePow,Nat.reduceDiv,Nat.reduceMod,Nat.reduceLeDiff,Fc,p,lr]
             refine ec (bj (by exact Tryz.t38.1) (by exact X2) (by decide) (by rfl)) S ?_;clear S;intro h bs S a3 a4;simp only [LC,aU,bA,ah,Nat.reduceMul,Nat.reduceAdd,XB,Xk,Xi,XF]at S
             simp only [BS,LB,cls,Nat.reduceLT,Nat.reduceEqDiff,Nat.reduceAdd,Nat.reducePow,Nat.reduceDiv,Nat.reduceMod,Nat.reduceLeDiff]
             obtain⟨h2,e2,S2,ak⟩:=S.fill (i:=3) (x:=.slice (some ⟨bs,0,none⟩) 1 1) (v:=.int .i64 (i:Nat)) (off:=start A f (f A[i])) (len:=(outs A f i (f A[i])).length) (cap:=(outs A f A.length (f A[i])).length) (s:=none) rfl Tryz.t38.1 X2 Tryz.t38.2.2.2.2.2
              (by simp only [aA];rw [S.lds (b:=bs) (o:=0) (n:=1*1) m0 (lbt rfl)];rfl) cg (by omega) (by have:=hcs.1;omega) ono (ts:=[])
             refine jx (P:=fun Z v=>Z=h2/\v=.slice (some ⟨d,start A f (f A[i]),none⟩) ((outs A f i (f A[i])).length+1) (outs A f A.length (f A[i])).length) ⟨_,_,e2,rfl,rfl⟩ ?_
             rintro h v ⟨rfl,rfl⟩
             clear S e2 ak;have S:=S2;clear S2
             simp only [LC]at S
             simp only [BS,LB,cls,Nat.reduceLT,Nat.reduceEqDiff,Nat.reduceAdd,Nat.reducePow,Nat.reduceDiv,Nat.reduceMod,Nat.reduceLeDiff,Fc,p]
             refine d9 (ar S (i:=2) rfl Tryz.t38.2.2.1 cd (by simpa using p) ono) ?_
             clear S;rintro h ⟨S,z⟩;clear z
             simp only [LC]at S
             have e3:((zM j).map fun v=>ig A f d v (outs A f i v).length).set (f A[i]) (.slice (some ⟨d,start A f (f A[i]),none⟩) ((outs A f i (f A[i])).length+1) (outs A f A.length (f A[i])).length)=(zM j).map fun v=>ig A f d v (outs A f (i+1) v).length:=by
              have:=kA (N:=j) (k:=f A[i]) (F:=fun v=>ig A f d v (outs A f i v).length) (F':=fun v=>ig A f d v (outs A f (i+1) v).length) (fun v J U=>by
               show ig _ _ _ _ _=ig _ _ _ _ _
               rw [iI,hd,if_neg (fun e=>U e.symm),Xq])
              rw [<-this]
              congr 1
              show _=ig _ _ _ _ _
              rw [iI,hd,if_pos rfl,Xa]
              unfold ig
              rw [if_neg hK];rfl
             rw [e3]at S
             replace S:=S.drop1.drop1
             simp only [BS,LB,Nat.reduceLT,Nat.reduceEqDiff,Nat.reduceAdd,r64,w]
             refine⟨by simp only [aX,bo,aS,bD,aV,ne_eq,not_false_eq_true,bC,bR,aZ,aW,bZ,cu,aT,Nat.reduceLT,Nat.reduceEqDiff,reduceIte,XK,r0,r1,r8,ac,note_runq,px,yt,pair_n],?_⟩
             exact Q (i+1) _ _ (by omega) ⟨by omega,⟨_,fill_step hcs hlt,S⟩,by simp [aa,r0],by simp [aa,r1,ac],by simp [aa,r8],by simp [aa,r62],by simp [aa,r63],by simp [aa]⟩
           . have G:i=A.length:=by omega
             subst G
             simp only [BS,LB,ae,Nat.reduceLT,Nat.reduceEqDiff,r8,r63,r64,an,hlt]
             refine⟨S.gr,I,_,rfl,T,S.row m0,by simp,fun v J=>⟨_,mS J,.inr ⟨d,_,none,_,rfl,XE _,?_⟩,fun c (hc:d=c)=>hc▸R⟩⟩
             have hR:=S.row (b:=d) (l:=cs) (md:=1) m1
             have ht:=qH A f v
             have hl:=hcs.1
             rw [Xi]
             by_cases H:(outs A f A.length v).length=0
             . rw [if_pos H,H,hR.load (by omega)]
               rw [List.length_eq_zero_iff.1 H];rfl
             . rw [if_neg H,hR.load (by omega)]
               congr 1
               refine List.ext_getElem? fun r=>?_
               have e4:(outs A f A.length v).flatMap eO=(outs A f A.length v).map fun x=>.int .i64 (x:Nat):=by
                rw [X5,List.map_eq_flatMap,X5];rfl
               rw [e4,List.getElem?_map,List.getElem?_take,List.getElem?_drop]
               by_cases hr:r<(outs A f A.length v).length
               . rw [if_pos hr,hcs.2 v r _ J (XC hr),XC hr];rfl
               . rw [if_neg hr,List.getElem?_eq_none (by omega)];rfl
         . exact⟨Xe _,⟨_,fill_zero,S⟩,by simp [aa,r0],by simp [aa,r1,ac],by simp [aa,r8],by simp [aa],by simp [aa],by simp [aa]⟩
     . exact⟨Xe _,S,by simp [aa,r0],by simp [aa,r1,ac],by simp [aa],by simp [aa],by simp [aa,start],by simp [aa,r4],by simp [aa],by simp [aa]⟩
 . exact⟨Xe _,S,by simp [aa,aG],by simp [aa,aG,bK,ac],by simp [aa],by simp [aa],by simp [aa],by simp [aa]⟩
def Tryz.FI:=aj t1<|aj t2<|aj t3<|aj t4<|aj t23<|aj t35<|aj Z1<|aj t38<|aj t67<|aj Z4<|aj t162<|aj Z3<|aj t209<|t210
def Tryz.F0p:=aj t1<|aj t2<|aj t3<|aj t4<|aj t5<|aj t23<|aj t29<|aj t35<|aj Z1<|aj t67<|aj t69<|aj Z4<|aj Z17<|aj t128<|aj t130<|aj r130<|aj t162<|Z3
theorem of_ok{k:Hp}(G:k.t.Sized k.n){r:Gra}(d:fo r){s t u:Value}(w:cZ k s t u r){m:Nat}(y:m<=k.n)(H: ∀c,aq s c\/aq t c\/aq u c->m<=c):
 Ret zB 65 [iP r s t u] k fun v C=>Gr k C/\bW C m v r:=by
 have S:=Si G
 refine ab (n:=20) (rs:=[.tmp 2]) rfl Tryz.e65 rfl rfl rfl (lbt rfl) ?_
 simp only [BS,Nat.reduceLT,iP]
 refine ag (bU (by intro x e;cases e)) S ?_;clear S;intro h b S I;simp only [ah]at S
 simp only [BS,LB,Nat.reduceLT,Nat.reduceEqDiff,Nat.reduceAdd,Nat.reduceLeDiff,FI,Xd,Xl,Xo,S.lds (b:=b) (o:=0) (n:=4) m0 (lbt rfl)]
 refine ag (bU (by intro x e;cases e)) S ?_;clear S;intro h p S q;simp only [ah]at S
 simp only [BS,LB,Nat.reduceLT,Nat.reduceEqDiff]
 have J:=S.fr.n
 have z:=(S.row (b:=p) m0).lt S.ok
 refine step_ret (of1_ok S.ok d (S.row m1) (w.gr S.gr) of2_key (fun a A=>(d.arcs a A).1)) ?_;intro D h ⟨g,f⟩;replace S:=S.call g;clear g
 simp only [BS,LB,Nat.reduceLT,Nat.reduceEqDiff]
 have K:=S.fr.n
 have B:=(S.row (b:=p) m0).lt S.ok
 refine step_ret (of1_ok S.ok d (S.row m1) (w.gr S.gr) of3_key (fun a A=>(d.arcs a A).2.1)) ?_;intro v h ⟨g,l⟩;replace S:=S.call g;replace f:=f.gr g;clear g
 have L:Fl v:=by obtain⟨_,_,rfl,_⟩:=l;exact cd
 have M:Fl D:=by obtain⟨_,_,rfl,_⟩:=f;exact cd
 simp only [BS,LB,Nat.reduceLT,Nat.reduceEqDiff,FI]
 have E: ∀c,c=p->c<_:=fun c e=>e▸z
 have F: ∀c,c=p->c<_:=fun c e=>e▸B
 refine aw (ar S (i:=0) rfl ?_ ?_ ?_ ono) ?_
 . exact(by simp only [FI])
 . exact(by assumption)
 . exact Xb (lbt rfl)
 clear S;rintro h ⟨S,j⟩;replace f:=f.mo j E;replace l:=l.mo j F;clear j;simp only [LC,ah,lay,Xx,Xy,Nat.reduceAdd]at S
 simp only [BS,LB,Nat.reduceLT,Nat.reduceEqDiff,FI]
 refine aw (ar S (i:=0) rfl ?_ ?_ ?_ ono) ?_
 . exact(by simp only [FI])
 . exact(by assumption)
 . exact Xb (lbt rfl)
 clear S;rintro h ⟨S,j⟩;replace f:=f.mo j E;replace l:=l.mo j F;clear j;simp only [LC,ah,lay,Xx,Xy,Nat.reduceAdd]at S
 simp only [BS,LB,ae,Nat.reduceLT,Nat.reduceEqDiff]
 exact⟨S.gr,p,s,t,u,D,v,rfl,S.row m0,w.gr S.gr,f.low (XG y J),l.low (XG y K),XG y q,H⟩
theorem yS{a:Hp}(q:a.t.Sized a.n){f:Gra}(d:fo f){i j k:Value}(l:cZ a i j k f):
 Ret zB 21 [iP f i j k] a fun r p=> ∃v,r=.tuple #[v,.nilIface]/\Gr a p/\bW p a.n v f:=by
 have S:=Si q
 refine ab (n:=17) (rs:=[.tmp 2,.tmp 3]) rfl Tryz.e21 rfl rfl rfl (lbt rfl) ?_
 simp only [BS,Nat.reduceLT,iP]
 refine ag (bU (by intro x e;cases e)) S ?_;clear S;intro h b S s;simp only [ah]at S
 simp only [BS,LB,Nat.reduceLT,Nat.reduceEqDiff,F0p,Xd,Xl,Xo,S.lds (b:=b) (o:=0) (n:=4) m0 (lbt rfl)]
 refine al (zY S.ok d (l.gr S.gr)) ?_;intro h g;replace S:=S.call g;clear g
 simp only [BS,LB,Nat.reduceLT,Nat.reduceEqDiff,F0p,Xd,Xl,Xo,S.lds (b:=b) (o:=0) (n:=4) m0 (lbt rfl)]
 have t:=S.fr.n
 refine step_ret (own_ok S.ok d (l.gr S.gr)) ?_;intro v h ⟨g,vx',vy',va',u,ga',hz,_⟩;replace S:=S.call g;clear g
 subst u
 simp only [BS,LB,Nat.reduceLT,Nat.reduceEqDiff]
 refine step_ret (of_ok S.ok d ga' (m:=a.n) S.fr.n (fun c w=>XG t (hz c w))) ?_;intro v h ⟨g,R⟩;replace S:=S.call g;clear g
 simp only [BS,LB,ae,Nat.reduceLT,Nat.reduceEqDiff]
 exact⟨_,rfl,S.gr,R⟩
def Tryz.F0q:=aj t1<|aj t2<|aj t3<|aj t4<|aj t23<|aj t35<|aj Z1<|aj t38<|aj t67<|aj Z4<|aj t162<|Z3
theorem netRaw_ok{j:Hp}(F:j.t.Sized j.n){k:Gra}(s:fo k){G A:Nat}(H:bW j G (ptrTo A) k):
 Ret zB 32 [ptrTo A] j fun r q=>Gr j q/\ ∃l m f,r=iP k l m f/\cZ q l m f k/\(∀c,aq l c\/aq m c\/aq f c->j.n<=c)/\WrK q 3 cD f k.arcs/\ ∀c,aq f c-> ¬aq l c/\ ¬aq m c:=by
 have S:=Si F
 obtain⟨b,l,m,f,P,Q,e,r,I,_⟩:=H.ex
 cases e
 have J:=r.load (o:=0) (n:=4) (lbt rfl)
 refine ab (n:=11) (rs:=[.cell 2 37]) rfl Tryz.e32 rfl rfl rfl (lbt rfl) ?_
 simp only [BS,F0q]
 refine ag av S ?_;clear S;intro h B S C
 simp only [BS,LB,Nat.reduceLT,Nat.reduceEqDiff,F0q,S.old J (fun h=>h),Xd,Xl,Xo]
 have K:=S.fr.n
 have D:Ret zB 66 [iP k l m f] h _:=own_ok S.ok s (I.gr S.gr)
 unfold iP at D
 refine step_ret D ?_
 rintro v h ⟨g,t,u,y,rfl,a,z,w,d⟩
 have L:=a.X.fl
 have M:=a.Y.fl
 have N:=a.A.fl
 have O:=(S.row (b:=B) m0).lt S.ok
 replace S:=S.call g
 simp only [BS,LB,Nat.reduceLT,Nat.reduceEqDiff]
 refine aw (S.store (i:=0) rfl Tryz.t37.2.1 (by intro x e;cases e) rfl (by simp only [ah,List.all_cons,List.all_nil,L.2.1,M.2.1,N.2.1,XK];rfl) (lbt rfl) ono) ?_
 clear S;rintro q ⟨S,E⟩
 simp only [LC,ah,lay,Xx,Xy,Nat.reduceAdd]at S
 simp only [BS,ae]
 refine(gf (by decide) (by simp only [aT,ac,Nat.reduceEqDiff,reduceIte];exact gu Tryz.t37.1 Tryz.t37.2.1 (S.lds (b:=B) (o:=0) (n:=4) m0 (lbt rfl)))).2 (ib.2 ?_)
 exact⟨S.gr,t,u,y,rfl,a.mo E (fun c p e=>by have:=z c p;omega),fun c p=>XG K (z c p),w.mo E (fun c p e=>by have:=z c (.inr (.inr p));omega),d⟩
def Tryz.F0r:=aj t1<|aj t2<|aj t3<|aj t4<|aj t5<|t213
def Tryz.F0s:=aj t1<|aj t2<|aj t3<|aj t61<|t213
def Tryz.F0t:=aj t1<|aj t2<|aj t3<|aj t4<|aj t5<|aj t6<|aj t38<|t61
def pos:List Int->Int->Option Nat
 | [],_=>none
 |y::a,x=>if x=y then some 0 else(pos a x).map (· +1)
def jy:Nat->List Int->List (Value×Value×Nat)
 |_,[]=>[]
 |o,x::a=>(.int .i64 x,.int .i64 (o:Nat),o)::jy (o+1) a
theorem ents_app(o:Nat)(l:List Int)(x:Int):jy o (l++[x])=jy o l++[(.int .i64 x,.int .i64 ((o+l.length:Nat):Int),o+l.length)]:=by
 induction l generalizing o with
 |nil=>rfl
 | cons y a b=>
   show _::jy (o+1) (a++[x])=_::(jy (o+1) a++_)
   rw [b,Xv,show o+1+a.length=o+(a.length+1) by omega]
theorem ents_len(o:Nat)(l:List Int):(jy o l).length=l.length:=by
 induction l generalizing o with
 |nil=>rfl
 |cons y a b=>show(jy (o+1) a).length+1=_;rw [b];rfl
theorem keq_int{x y:Int}:ca (.int .i64 x) (.int .i64 y)=some (decide (x=y)):=by
 show some (io x y)=_
 congr 1
 rw [lG]
theorem xb(o:Nat)(l:List Int)(x:Int):bg (.int .i64 x) (jy o l)=some ((pos l x).map fun i=>(.int .i64 ((o+i:Nat):Int),o+i)):=by
 induction l generalizing o with
 |nil=>rfl
 | cons y a b=>
   show(match ca (.int .i64 x) (.int .i64 y)with|none=>none|some true=>some (some (Value.int .i64 (o:Nat),o))|some false=>bg (.int .i64 x) (jy (o+1) a))=_
   rw [keq_int,pos]
   by_cases h:x=y
   . rw [if_pos h,decide_eq_true h];rfl
   . rw [if_neg h,decide_eq_false h]
     show bg (.int .i64 x) (jy (o+1) a)=_
     rw [b]
     cases pos a x with
     |none=>rfl
     |some i=>simp;omega
theorem St.mput{M:Nat->Prop}{d h:Hp}{L:List (Nat×Ob)}{G:List GL}(S:St M d h L G){E:Env}{t kt el:TypeId}{i b c:Nat}{a:List (Value×Value×Nat)}{k v:Value}(e:L[i]? =some (b,.map a c))(j:E.und t=some (.map kt el))(hf:bE E kt k=true)(l:bg k a=some none):
 ∃f,dX E h t (.map (some b)) k v=some f/\St M d f (L.set i (b,.map (a++[(k,v,c)]) (c+1))) G:=by
 have g:h.get b=some (.map a c):=(S.own _ (Xc e)).2
 refine⟨h.put b (.map (a++[(k,v,c)]) (c+1)),?_,S.put e ?_⟩
 . simp only [dX,jr,j,hf,cond_true,g,l]
 . show(h.put b _).get b=_
   rw [Hp.get_put,if_pos ⟨rfl,by rw [g];rfl⟩]
theorem Bz{E:Env}{h:Hp}{t kt el:TypeId}{b c:Nat}{l:List Int}{x:Int}(a:E.und t=some (.map kt el))(d:E.und kt=some (.int .i64))(e:E.zeroV el=some (.int .i64 0))(f:h.get b=some (.map (jy 0 l) c)):
 dy E h t (.map (some b)) (.int .i64 x) true=some (match pos l x with|some i=>.tuple #[.int .i64 (i:Nat),.bool true]|none=>.tuple #[.int .i64 0,.bool false]):=by
 have hf:bE E kt (.int .i64 x)=true:=by simp only [bE,d];rfl
 simp only [dy,a,hf,cond_true,f,xb,e]
 cases pos l x with
 |none=>rfl
 |some i=>simp
def n9(ks:List Int)(x:Int):Nat:=match pos ks x with|some i=>i|none=>ks.length
def nY(ks:List Int)(x:Int):List Int:=match pos ks x with|some _=>ks|none=>ks++[x]
def norm:List Int->List Int->List Int
 |_,[]=>[]
 |a,x::b=>(n9 a x:Int)::norm (nY a x) b
theorem name_ok{a:Hp}(l:a.t.Sized a.n){f b:Nat}{ks:List Int}{x:Int}(m:Row a f [.map (some b)] 1)(c:a.get b=some (.map (jy 0 ks) ks.length)):
 Ret zB 196 [.int .i64 x,ptrTo f] a fun v g=>Mo (· =b) a g/\v=.int .i64 (n9 ks x)/\g.get b=some (.map (jy 0 (nY ks x)) (nY ks x).length):=by
 have S:=St.init1 l (o:=.map (jy 0 ks) ks.length) c
 have j:=m.load1 (o:=0) rfl
 have d:=Bz (x:=x) Tryz.t213.1 Tryz.t3.1 (by kernel_rfl) c
 have k:mR (some (.map 3 3)) a (.map (some b))=some (.val (.int .i64 (jy 0 ks).length),a):=lenq_map c
 rw [ents_len]at k
 unfold n9 nY
 cases e:pos ks x with
 | some i=>
   rw [e]at d
   refine ab (n:=20) (rs:=[.tmp 3]) rfl Tryz.e196 rfl rfl rfl (lbt rfl) ?_
   simp only [BS,LB,ae,Nat.reduceLT,Nat.reduceEqDiff,F0r,j,d]
   exact⟨S.fr,c⟩
 | none=>
   rw [e]at d
   refine ab (n:=20) (rs:=[.tmp 3]) rfl Tryz.e196 rfl rfl rfl (lbt rfl) ?_
   simp only [BS,LB,Nat.reduceLT,Nat.reduceEqDiff,F0r,j,d,k]
   refine aw (S.mput (i:=0) rfl Tryz.t213.1 (by simp only [bE,Tryz.t3.1];rfl) (by rw [xb,e];rfl)) ?_
   clear S;intro h S
   simp only [LC]at S
   simp only [BS,LB,ae,Nat.reduceLT,Nat.reduceEqDiff]
   have p:h.get b=some (.map (jy 0 ks++[(.int .i64 x,.int .i64 ks.length,ks.length)]) (ks.length+1)):=(S.own _ m0).2
   refine⟨S.fr,?_⟩
   rw [ents_app,Xa,Xk];exact p
theorem namer_ok{a:Hp}(g:a.t.Sized a.n):Ret zB 146 [] a fun v f=>Gr a f/\ ∃b c,v=.func (.func 196) #[] #[ptrTo b]/\a.n<=b/\a.n<=c/\Row f b [.map (some c)] 1/\f.get c=some (.map [] 0):=by
 have S:=Si g
 refine ab (n:=4) (rs:=[.tmp 0]) rfl Tryz.e146 rfl rfl rfl (lbt rfl) ?_
 simp only [BS]
 refine ag tK S ?_;clear S;intro h c S d
 simp only [BS,F0s]
 refine ag av S ?_;clear S;intro h b S e
 simp only [BS,LB,Nat.reduceLT,Nat.reduceEqDiff]
 refine aw (ar S (i:=0) rfl ?_ ?_ ?_ ono) ?_
 . exact(by simp only [F0s])
 . exact(by exact fl_map)
 . exact Xb (lbt rfl)
 clear S;rintro h ⟨S,j⟩;clear j;simp only [LC,ah,lay,Xx,Xy,Nat.reduceAdd]at S
 simp only [BS,LB,ae,Nat.reduceLT,Nat.reduceEqDiff]
 exact⟨S.gr,b,c,rfl,e,d,S.row m0,(S.own _ m1).2⟩
theorem each_ok{d:Hp}(J:d.t.Sized d.n){y g:Nat}{ks l:List Int}{v:Value}(F:Row d y [.map (some g)] 1)(z:d.get g=some (.map (jy 0 ks) ks.length))(A:ay d 1 (encI .i64) v l)(O:l.length<1000):
 Ret zB 145 [v,.func (.func 196) #[] #[ptrTo y]] d fun r G=>Mo (· =g) d G/\ay G 1 (encI .i64) r (norm ks l)/\ ∀c,aq r c->d.n<=c:=by
 have S:=St.init1 J (o:=.map (jy 0 ks) ks.length) z
 have B: ∀c,aq v c-> ¬c=g:=by
  rintro c q rfl
  rcases A with⟨rfl,_⟩|⟨b,o,s,P,rfl,_,K⟩
  . exact q.elim
  . have:b=c:=q
    subst this
    simp [Hp.load,z]at K
 have C: ¬y=g:=by
  rintro rfl
  obtain⟨t,el,e,_⟩:=F
  rw [z]at e;cases e
 refine ab (n:=21) (rs:=[.tmp 4]) rfl Tryz.e145 rfl rfl rfl (lbt rfl) ?_
 simp only [BS,LB,Nat.reduceLT,Nat.reduceEqDiff,F0t,A.lenq]
 replace S:=S.nilG (k:=1)
 refine az (fun(i:Nat) p h=>i<=l.length/\ ∃(a done:List Int) (D:Value),norm ks l=done++norm a (l.drop i)/\done.length=i/\St (· =g) d h [(g,.map (jy 0 a) a.length)] [(D,1,ints done)]/\
  p 1=.func (.func 196) #[] #[ptrTo y]/\p 4=D/\p 7=v/\p 8=.int .i64 l.length/\p 9=.int .i64 i) (fun i=>l.length-i) ?_ 0 _ _ ?_
 . clear S
   intro i L p h ⟨hi,a,done,D,hn,hd,S,r1,r4,r7,r8,r9⟩
   by_cases hlt:i<l.length
   . obtain⟨c,o,u,x⟩:=(A.mo S.fr B).ix (kd:=.i64) (aH .i64) hlt
     have w:am .i64 ((i:Int)+1)=((i+1:Nat):Int):=by rw [wrap64]<;>omega
     simp only [BS,LB,Nat.reduceLT,Nat.reduceEqDiff,F0t,r1,r4,r7,r8,r9,an,hlt,u,x,encI]
     refine step_ret (name_ok S.ok (S.fr.has (o:=.row _ 1) F C) (S.own _ m0).2) ?_
     rintro r h ⟨f,rfl,H⟩
     replace S:=S.call1 (i:=0) rfl f (o':=.map _ _) H
     simp only [LC]at S
     simp only [BS,LB,Nat.reduceLT,Nat.reduceEqDiff]
     refine ag (bj (by exact Tryz.t38.1) (by exact X2) (by decide) (by rfl)) S ?_;clear S;intro h M S I;simp only [LC,aU,bA,ah,Nat.reduceMul,Nat.reduceAdd,XB,Xk,Xi,XF]at S
     simp only [BS,LB,Nat.reduceLT,Nat.reduceEqDiff]
     refine dT (S.grow (j:=0) (m:=1) (new:=ints [(n9 a l[i]:Int)]) rfl Tryz.t38.1 X2 (by decide) Tryz.t38.2.2.2.2.2 (by simp only [aA];rw [S.lds (b:=M) (o:=0) (n:=1*1) m0 (lbt rfl)];rfl) rfl (by decide) rfl (by rw [bQ,bQ];simp;omega)) ?_
     clear S f H x
     rintro h N S
     simp only [LC]at S
     replace S:=S.drop1
     rw [<-gM]at S
     simp only [BS,LB,Nat.reduceLT,Nat.reduceEqDiff,r9,w]
     refine L (i+1) _ _ (by omega) ⟨by omega,_,_,_,?_,?_,S,by simp [aa,r1,ac],by simp [aa],by simp [aa,r7],by simp [aa,r8],by simp [aa]⟩
     . rw [hn,XW hlt,norm,Xs];rfl
     . simp [hd]
   . have E:i=l.length:=by omega
     simp only [BS,LB,ae,Nat.reduceLT,Nat.reduceEqDiff,r4,r8,r9,an,hlt]
     have e:norm ks l=done:=by rw [hn,E,List.drop_length,norm,Xq]
     rw [e]
     exact⟨S.fr,(S.gown _ m0).1.sl rfl (aH .i64) (by decide),fun c q=>((S.gblk m0 q).1).elim (fun h=>h) (fun h=>((S.gblk m0 q).2 (by simp [h])).elim)⟩
 . exact⟨Xe _,ks,[],_,rfl,rfl,S,by simp [aa,aG,bK,ac],by simp [aa],by simp [aa,aG],by simp [aa],by simp [aa]⟩
end Go.Ab
end

/- Nets, cells, flags: what the functions do (part 2). -/
import Derived.Test.YtdicllcgofpggaaGreatDoorNetA
open Go.Ab.Tryz
open Go.Ab.Tryz renaming abEnv->zB,e5E->XV,F0->X5,e3E->X7
open List renaming range->zM,sublist_cons_self->zO,length_append->Xa,mem_of_getElem?->Xc,drop_zero->Xd,take_succ_eq_append_getElem->Xf,length_take->Xh,flatMap_cons->Xi,take_succ_cons->Xl,flatMap_nil->Xm,flatMap_append->Xn,take_zero->Xo,append_nil->Xq,take_length->Xr,append_assoc->Xs,length_cons->Xv,set_cons_zero->Xw,take->Xy,drop->Xz,take_of_length_le->XA,getElem?_eq_getElem->XC,length_nil->XI,getD_eq_getElem?_getD->XL,drop_succ_cons->XM,drop_drop->XN,ext_getElem?->XO,drop_eq_nil_of_le->XQ,getElem_mem->XR,map_append->XT,map_congr_left->XU,length_range->XX,getElem?_set->XY,nodup_append->XZ,drop_eq_getElem_cons->X2,sublist_append_right->X3,drop_left'->X8,length_set->X9,length_singleton->Yb,flatMap_eq_foldl->Yc,getElem?_eq_none->Yd,getElem?_append->Ye,length->Yk
open Nat renaming lt_of_succ_le->Xb,zero_le->Xe,mul_one->Xj,zero_add->Xk,pow_le_pow_right->Xp,shiftRight_eq_div_pow->Xt,ble_eq_true_of_le->Xu,mul_le_mul_right->Xx,zero_mul->XB,le_trans->XD,le_refl->XF,one_mul->XG,div_div_eq_div_mul->XJ,mod_eq_of_lt->XS,mul_comm->X4,beq_refl->X6,eq_of_beq_eq_true->Ya,mul_assoc->Yf,add_comm->Yg,sub_self->Yh,succ_mul->Yi
open Int renaming cast_ofNat_Int->Xg,toNat_natCast->XP
open Option renaming map_some->XE,map_none->XH,isSome_none->Yj
open Bool renaming and_true->XK
open Prod renaming snd->XW
set_option maxHeartbeats 4000000
set_option linter.defProp false
set_option linter.unusedVariables false
set_option linter.unusedSimpArgs false
section
namespace Go.Ab
open Go.Proofs
set_option maxRecDepth 10000
theorem St.bsl{M:Nat->Prop}{e h:Hp}{L:List (Nat×Ob)}{G:List GL}{a:Nat}{kd:IntKind}{xs:List Int}(S:St M e h ((a,.row (xs.flatMap (encI kd)) 1)::L) G):St M e h L G/\ay h 1 (encI kd) (.slice (some ⟨a,0,none⟩) xs.length xs.length) xs/\ ∀c,ar (.slice (some ⟨a,0,none⟩) xs.length xs.length) c->c∉keys L G:=by
 refine⟨S.drop1,.inr ⟨a,0,none,xs.length,rfl,XF _,?_⟩,fun c d f=>?_⟩
 . have:=S.lds (b:=a) (o:=0) (n:=xs.length*1) m0 (by rw [aI (aH kd)];omega);rw [Xd,XA (by rw [aI (aH kd)];omega)]at this;exact this
 . have d:a=c:=d;subst d;exact(List.nodup_cons.1 S.apart).1 f
theorem put8_ok{M:Nat->Prop}{H hq:Hp}{L:List (Nat×Ob)}{G:List GL}(S:St M H hq L G){i j e:Nat}{v f:Value}{l:Bs}{xs:List Int}{many:Nat}(y:L[i]? =some (e,.row [v] 1))(z:G[j]? =some (v,1,aQ l))(I:ay hq 1 (encI .u8) f xs)
 (P: ∀c,ar f c->c∉keys L G) (A:many<=8) (hl:l.length+8*xs.length<=1000000):
 Ret zB 101 [ptrTo e,.int .i64 (many:Nat),f] hq fun r g=> ∃v',St M H g (L.set i (e,.row [v'] 1)) (G.set j (v',1,aQ (l++xs.flatMap fun x=>aK many (u64 x)))):=by
 have Q:=S;have ok:=S.ok;replace S:=S.base;refine aa (n:=42) (rs:=[]) rfl Tryz.e101 rfl rfl rfl (lbt rfl) ?_;simp only [BZ,I.lenq,seval];refine az (fun(k:Nat) d g=>k<=xs.length/\ ∃v',St (· ∈keys L G) hq g (L.set i (e,.row [v'] 1)) (G.set j (v',1,aQ (l++(xs.take k).flatMap fun x=>aK many (u64 x))))/\d 0=ptrTo e/\d 1=.int .i64 (many:Nat)/\d 13=f/\d 14=.int .i64 xs.length/\d 15=.int .i64 k) (fun k=>xs.length-k) ?_ 0 _ _ ?_
 . clear S;intro k R d h1 ⟨hk,v',S,r0,r1,r13,r14,r15⟩;have B:=I.mo S.fr P;by_cases hlt:k<xs.length
   . obtain⟨c,o,p,C⟩:=B.ix (kd:=.i64) (aH .u8) hlt;have w:ag .i64 ((k:Int)+1)=((k+1:Nat):Int):=(by rw [wrap64]<;>omega);have T:xs.take (k+1)=xs.take k++[xs[k]]:=Xf hlt;simp only [BZ,r13,r14,r15,an,hlt,p,C,encI,seval];refine ac au S ?_;clear S;intro h s S J;have U:[Value.int .u8 0,.int .u8 0,.int .u8 0,.int .u8 0,.int .u8 0,.int .u8 0,.int .u8 0,.int .u8 0]=lM (u64 xs[k]) 0:=rfl;rw [U]at S;simp only [BZ,bV,aA,cj,wrap_u64,seval];refine az (fun(a:Nat) d g=>a<=8/\St (· ∈keys L G) hq g ((s,.row (lM (u64 xs[k]) a) 1)::L.set i (e,.row [v'] 1)) (G.set j (v',1,aQ (l++(xs.take k).flatMap fun x=>aK many (u64 x))))/\d 0=ptrTo e/\d 1=.int .i64 (many:Nat)/\d 13=f/\d 14=.int .i64 xs.length/\d 15=.int .i64 k/\d 8=ptrTo s/\d 9=.int .u64 ((u64 xs[k]/256 ^a:Nat):Int)/\d 21=.int .i64 a) (fun a=>8-a) ?_ 0 _ _ ?_
     . clear S r0 r1 r13 r14 r15;intro a D d K ⟨ha,S,r0,r1,r13,r14,r15,r8,r9,r21⟩;have V:ag .i64 ((a:Int)+1)=((a+1:Nat):Int):=(by rw [wrap64]<;>omega);by_cases t:a<8
       . have u:(a:Int)<8:=(by omega);have N:=wrapN (k:=.u8) rfl (u64 xs[k]/256 ^a);simp only [pw]at N;have W:(u64 xs[k]/256 ^a)>>>8=u64 xs[k]/256 ^(a+1):=(by rw [Xt,XJ];rfl);simp only [BZ,bV,aA,cj,r8,r9,r21,u,N,nR (n:=8) t,pj (k:=.u64) (by decide),seval];refine aw (aq S (i:=0) rfl Tryz.t5.2.2.1 ca (by rw [kw];exact t) ono) ?_;clear S;rintro K ⟨S,_⟩;simp only [LC,sG]at S;simp only [BZ,r9,r21,pj (k:=.u64) (by decide),W,V,seval];exact D (a+1) _ _ (by omega) ⟨by omega,S,by simp [am,r0,r1,r13,r14,r15,r8,al]⟩
       . have X:a=8:=(by omega);subst X;have Y:=(S.row (b:=e) (.tail _ (Xc (dL y)))).load1 (o:=0) rfl;have O:=S.lds (b:=s) (o:=0) (n:=many) m0 (by rw [kw];omega);rw [Xd,q9 A]at O;have E:aC K 1 (.slice (some ⟨s,0,none⟩) many 8)=some (many,aQ (aK many (u64 xs[k]))):=(by simp only [aC];rw [Xj,O]);have F:=qH (n:=8) (b:=s) (many:=many) (k:=.i64) Tryz.t242.1 Tryz.t5.2.2.1 A;simp only [BZ,Xg,r15,r21,seval];refine av (ax rfl) (q:=0) (ps:=[]) (by kernel_rfl) ?_;simp only [BZ,cls,XE,XH,r0,r1,r8,Y,F,seval];refine jG (S.grow (j:=j) (m:=many) (new:=aQ (aK many (u64 xs[k]))) (dL z) Tryz.t22.1 XV (by decide) Tryz.t22.2.2.2.2.2 E (by rw [dM,aF,Xj]) (by decide) (oX _) (by
          have Z:(xs.take k).length=k:=(by rw [Xh];omega);have l2:many*k<=8*k:=Xx _ A;rw [dM,dM,aF,Xa,dO (fun x=>aF many _),Z];omega)) ?_
         clear S;rintro h3 v2 S;have fv:=(S.gown _ (Xc (dL (dL z)))).1.fl;have tl:aQ (l++(xs.take k).flatMap fun x=>aK many (u64 x))++aQ (aK many (u64 xs[k]))=aQ (l++(xs.take (k+1)).flatMap fun x=>aK many (u64 x)):=(by rw [<-lH,T,Xn,Xs];simp);rw [set_set,tl]at S;simp only [BZ,cls,seval];refine dN (aq S (i:=i+1) (dL y) Tryz.t22.2.2.1 fv (Xb (lbt rfl)) ono) ?_;clear S;rintro h4 ⟨S,_⟩;simp only [LC,set_set]at S;simp only [BZ,r15,w,seval];exact R (k+1) _ _ (by omega) ⟨by omega,v2,S.drop1,by simp [am,r0,r1,r13,r14]⟩
     . exact⟨Xe _,S,by simp [am,r0,r1,r13,r14,r15,al]⟩
   . have:k=xs.length:=(by omega);subst this;rw [Xr]at S;simp only [BZ,r14,r15,an,hlt,seval];exact⟨v',Q.rebase S⟩
 . exact⟨Xe _,v,by rw [set_self y];simp only [Xo,Xm,Xq];rw [set_self z];exact S,by simp [am,cq,al,cV]⟩
theorem put32_ok{M:Nat->Prop}{H hq:Hp}{L:List (Nat×Ob)}{G:List GL}(S:St M H hq L G){i j e:Nat}{v f:Value}{l:Bs}{xs:List Int}{many:Nat}(y:L[i]? =some (e,.row [v] 1))(z:G[j]? =some (v,1,aQ l))(I:ay hq 1 (encI .u32) f xs)
 (P: ∀c,ar f c->c∉keys L G) (A:many<=8) (hl:l.length+8*xs.length<=1000000):
 Ret zB 103 [ptrTo e,.int .i64 (many:Nat),f] hq fun r g=> ∃v',St M H g (L.set i (e,.row [v'] 1)) (G.set j (v',1,aQ (l++xs.flatMap fun x=>aK many (u64 x)))):=by
 have Q:=S;have ok:=S.ok;replace S:=S.base;refine aa (n:=42) (rs:=[]) rfl Tryz.e103 rfl rfl rfl (lbt rfl) ?_;simp only [BZ,I.lenq,seval];refine az (fun(k:Nat) d g=>k<=xs.length/\ ∃v',St (· ∈keys L G) hq g (L.set i (e,.row [v'] 1)) (G.set j (v',1,aQ (l++(xs.take k).flatMap fun x=>aK many (u64 x))))/\d 0=ptrTo e/\d 1=.int .i64 (many:Nat)/\d 13=f/\d 14=.int .i64 xs.length/\d 15=.int .i64 k) (fun k=>xs.length-k) ?_ 0 _ _ ?_
 . clear S;intro k R d h1 ⟨hk,v',S,r0,r1,r13,r14,r15⟩;have B:=I.mo S.fr P;by_cases hlt:k<xs.length
   . obtain⟨c,o,p,C⟩:=B.ix (kd:=.i64) (aH .u32) hlt;have w:ag .i64 ((k:Int)+1)=((k+1:Nat):Int):=(by rw [wrap64]<;>omega);have T:xs.take (k+1)=xs.take k++[xs[k]]:=Xf hlt;simp only [BZ,r13,r14,r15,an,hlt,p,C,encI,seval];refine ac au S ?_;clear S;intro h s S J;have U:[Value.int .u8 0,.int .u8 0,.int .u8 0,.int .u8 0,.int .u8 0,.int .u8 0,.int .u8 0,.int .u8 0]=lM (u64 xs[k]) 0:=rfl;rw [U]at S;simp only [BZ,bV,aA,cj,wrap_u64,seval];refine az (fun(a:Nat) d g=>a<=8/\St (· ∈keys L G) hq g ((s,.row (lM (u64 xs[k]) a) 1)::L.set i (e,.row [v'] 1)) (G.set j (v',1,aQ (l++(xs.take k).flatMap fun x=>aK many (u64 x))))/\d 0=ptrTo e/\d 1=.int .i64 (many:Nat)/\d 13=f/\d 14=.int .i64 xs.length/\d 15=.int .i64 k/\d 8=ptrTo s/\d 9=.int .u64 ((u64 xs[k]/256 ^a:Nat):Int)/\d 21=.int .i64 a) (fun a=>8-a) ?_ 0 _ _ ?_
     . clear S r0 r1 r13 r14 r15;intro a D d K ⟨ha,S,r0,r1,r13,r14,r15,r8,r9,r21⟩;have V:ag .i64 ((a:Int)+1)=((a+1:Nat):Int):=(by rw [wrap64]<;>omega);by_cases t:a<8
       . have u:(a:Int)<8:=(by omega);have N:=wrapN (k:=.u8) rfl (u64 xs[k]/256 ^a);simp only [pw]at N;have W:(u64 xs[k]/256 ^a)>>>8=u64 xs[k]/256 ^(a+1):=(by rw [Xt,XJ];rfl);simp only [BZ,bV,aA,cj,r8,r9,r21,u,N,nR (n:=8) t,pj (k:=.u64) (by decide),seval];refine aw (aq S (i:=0) rfl Tryz.t5.2.2.1 ca (by rw [kw];exact t) ono) ?_;clear S;rintro K ⟨S,_⟩;simp only [LC,sG]at S;simp only [BZ,r9,r21,pj (k:=.u64) (by decide),W,V,seval];exact D (a+1) _ _ (by omega) ⟨by omega,S,by simp [am,r0,r1,r13,r14,r15,r8,al]⟩
       . have X:a=8:=(by omega);subst X;have Y:=(S.row (b:=e) (.tail _ (Xc (dL y)))).load1 (o:=0) rfl;have O:=S.lds (b:=s) (o:=0) (n:=many) m0 (by rw [kw];omega);rw [Xd,q9 A]at O;have E:aC K 1 (.slice (some ⟨s,0,none⟩) many 8)=some (many,aQ (aK many (u64 xs[k]))):=(by simp only [aC];rw [Xj,O]);have F:=qH (n:=8) (b:=s) (many:=many) (k:=.i64) Tryz.t242.1 Tryz.t5.2.2.1 A;simp only [BZ,Xg,r15,r21,seval];refine av (ax rfl) (q:=0) (ps:=[]) (by kernel_rfl) ?_;simp only [BZ,cls,XE,XH,r0,r1,r8,Y,F,seval];refine jG (S.grow (j:=j) (m:=many) (new:=aQ (aK many (u64 xs[k]))) (dL z) Tryz.t22.1 XV (by decide) Tryz.t22.2.2.2.2.2 E (by rw [dM,aF,Xj]) (by decide) (oX _) (by
          have Z:(xs.take k).length=k:=(by rw [Xh];omega);have l2:many*k<=8*k:=Xx _ A;rw [dM,dM,aF,Xa,dO (fun x=>aF many _),Z];omega)) ?_
         clear S;rintro h3 v2 S;have fv:=(S.gown _ (Xc (dL (dL z)))).1.fl;have tl:aQ (l++(xs.take k).flatMap fun x=>aK many (u64 x))++aQ (aK many (u64 xs[k]))=aQ (l++(xs.take (k+1)).flatMap fun x=>aK many (u64 x)):=(by rw [<-lH,T,Xn,Xs];simp);rw [set_set,tl]at S;simp only [BZ,cls,seval];refine dN (aq S (i:=i+1) (dL y) Tryz.t22.2.2.1 fv (Xb (lbt rfl)) ono) ?_;clear S;rintro h4 ⟨S,_⟩;simp only [LC,set_set]at S;simp only [BZ,r15,w,seval];exact R (k+1) _ _ (by omega) ⟨by omega,v2,S.drop1,by simp [am,r0,r1,r13,r14]⟩
     . exact⟨Xe _,S,by simp [am,r0,r1,r13,r14,r15,al]⟩
   . have:k=xs.length:=(by omega);subst this;rw [Xr]at S;simp only [BZ,r14,r15,an,hlt,seval];exact⟨v',Q.rebase S⟩
 . exact⟨Xe _,v,by rw [set_self y];simp only [Xo,Xm,Xq];rw [set_self z];exact S,by simp [am,cq,al,cV]⟩
theorem put64_ok{M:Nat->Prop}{H hq:Hp}{L:List (Nat×Ob)}{G:List GL}(S:St M H hq L G){i j e:Nat}{v f:Value}{l:Bs}{xs:List Int}{many:Nat}(y:L[i]? =some (e,.row [v] 1))(z:G[j]? =some (v,1,aQ l))(I:ay hq 1 (encI .u64) f xs)
 (P: ∀c,ar f c->c∉keys L G) (A:many<=8) (Q: ∀x∈xs,((u64 x:Nat):Int)=x) (hl:l.length+8*xs.length<=1000000):
 Ret zB 102 [ptrTo e,.int .i64 (many:Nat),f] hq fun r g=> ∃v',St M H g (L.set i (e,.row [v'] 1)) (G.set j (v',1,aQ (l++xs.flatMap fun x=>aK many (u64 x)))):=by
 have R:=S;have ok:=S.ok;replace S:=S.base;refine aa (n:=41) (rs:=[]) rfl Tryz.e102 rfl rfl rfl (lbt rfl) ?_;simp only [BZ,I.lenq,seval];refine az (fun(k:Nat) d g=>k<=xs.length/\ ∃v',St (· ∈keys L G) hq g (L.set i (e,.row [v'] 1)) (G.set j (v',1,aQ (l++(xs.take k).flatMap fun x=>aK many (u64 x))))/\d 0=ptrTo e/\d 1=.int .i64 (many:Nat)/\d 13=f/\d 14=.int .i64 xs.length/\d 15=.int .i64 k) (fun k=>xs.length-k) ?_ 0 _ _ ?_
 . clear S;intro k T d h1 ⟨hk,v',S,r0,r1,r13,r14,r15⟩;have B:=I.mo S.fr P;by_cases hlt:k<xs.length
   . obtain⟨c,o,p,C⟩:=B.ix (kd:=.i64) (aH .u64) hlt;have w:ag .i64 ((k:Int)+1)=((k+1:Nat):Int):=(by rw [wrap64]<;>omega);have U:xs.take (k+1)=xs.take k++[xs[k]]:=Xf hlt;simp only [BZ,r13,r14,r15,an,hlt,p,C,encI,seval];refine ac au S ?_;clear S;intro h s S J;have V:[Value.int .u8 0,.int .u8 0,.int .u8 0,.int .u8 0,.int .u8 0,.int .u8 0,.int .u8 0,.int .u8 0]=lM (u64 xs[k]) 0:=rfl;rw [V]at S;simp only [BZ,seval];refine az (fun(a:Nat) d g=>a<=8/\St (· ∈keys L G) hq g ((s,.row (lM (u64 xs[k]) a) 1)::L.set i (e,.row [v'] 1)) (G.set j (v',1,aQ (l++(xs.take k).flatMap fun x=>aK many (u64 x))))/\d 0=ptrTo e/\d 1=.int .i64 (many:Nat)/\d 13=f/\d 14=.int .i64 xs.length/\d 15=.int .i64 k/\d 8=ptrTo s/\d 9=.int .u64 ((u64 xs[k]/256 ^a:Nat):Int)/\d 20=.int .i64 a) (fun a=>8-a) ?_ 0 _ _ ?_
     . clear S r0 r1 r13 r14 r15;intro a D d K ⟨ha,S,r0,r1,r13,r14,r15,r8,r9,r21⟩;have W:ag .i64 ((a:Int)+1)=((a+1:Nat):Int):=(by rw [wrap64]<;>omega);by_cases t:a<8
       . have u:(a:Int)<8:=(by omega);have N:=wrapN (k:=.u8) rfl (u64 xs[k]/256 ^a);simp only [pw]at N;have X:(u64 xs[k]/256 ^a)>>>8=u64 xs[k]/256 ^(a+1):=(by rw [Xt,XJ];rfl);simp only [BZ,bV,aA,cj,r8,r9,r21,u,N,nR (n:=8) t,pj (k:=.u64) (by decide),seval];refine aw (aq S (i:=0) rfl Tryz.t5.2.2.1 ca (by rw [kw];exact t) ono) ?_;clear S;rintro K ⟨S,_⟩;simp only [LC,sG]at S;simp only [BZ,r9,r21,pj (k:=.u64) (by decide),X,W,seval];exact D (a+1) _ _ (by omega) ⟨by omega,S,by simp [am,r0,r1,r13,r14,r15,r8,al]⟩
       . have Y:a=8:=(by omega);subst Y;have Z:=(S.row (b:=e) (.tail _ (Xc (dL y)))).load1 (o:=0) rfl;have O:=S.lds (b:=s) (o:=0) (n:=many) m0 (by rw [kw];omega);rw [Xd,q9 A]at O;have E:aC K 1 (.slice (some ⟨s,0,none⟩) many 8)=some (many,aQ (aK many (u64 xs[k]))):=(by simp only [aC];rw [Xj,O]);have F:=qH (n:=8) (b:=s) (many:=many) (k:=.i64) Tryz.t242.1 Tryz.t5.2.2.1 A;simp only [BZ,Xg,r15,r21,seval];refine av (ax rfl) (q:=0) (ps:=[]) (by kernel_rfl) ?_;simp only [BZ,cls,XE,XH,r0,r1,r8,Z,F,seval];refine jG (S.grow (j:=j) (m:=many) (new:=aQ (aK many (u64 xs[k]))) (dL z) Tryz.t22.1 XV (by decide) Tryz.t22.2.2.2.2.2 E (by rw [dM,aF,Xj]) (by decide) (oX _) (by
          have l1:(xs.take k).length=k:=(by rw [Xh];omega);have l2:many*k<=8*k:=Xx _ A;rw [dM,dM,aF,Xa,dO (fun x=>aF many _),l1];omega)) ?_
         clear S;rintro h3 v2 S;have fv:=(S.gown _ (Xc (dL (dL z)))).1.fl;have tl:aQ (l++(xs.take k).flatMap fun x=>aK many (u64 x))++aQ (aK many (u64 xs[k]))=aQ (l++(xs.take (k+1)).flatMap fun x=>aK many (u64 x)):=(by rw [<-lH,U,Xn,Xs];simp);rw [set_set,tl]at S;simp only [BZ,cls,seval];refine dN (aq S (i:=i+1) (dL y) Tryz.t22.2.2.1 fv (Xb (lbt rfl)) ono) ?_;clear S;rintro h4 ⟨S,_⟩;simp only [LC,set_set]at S;simp only [BZ,r15,w,seval];exact T (k+1) _ _ (by omega) ⟨by omega,v2,S.drop1,by simp [am,r0,r1,r13,r14]⟩
     . exact⟨Xe _,S,by simp [am,r0,r1,r13,r14,r15,al,Q _ (XR hlt)]⟩
   . have:k=xs.length:=(by omega);subst this;rw [Xr]at S;simp only [BZ,r14,r15,an,hlt,seval];exact⟨v',R.rebase S⟩
 . exact⟨Xe _,v,by rw [set_self y];simp only [Xo,Xm,Xq];rw [set_self z];exact S,by simp [am,cq,al,cV]⟩
theorem putI_ok{M:Nat->Prop}{H hq:Hp}{L:List (Nat×Ob)}{G:List GL}(S:St M H hq L G){i j e:Nat}{v f:Value}{l:Bs}{xs:List Int}{many:Nat}(y:L[i]? =some (e,.row [v] 1))(z:G[j]? =some (v,1,aQ l))(I:ay hq 1 (encI .i64) f xs)
 (P: ∀c,ar f c->c∉keys L G) (A:many<=8) (hl:l.length+8*xs.length<=1000000):
 Ret zB 204 [ptrTo e,.int .i64 (many:Nat),f] hq fun r g=> ∃v',St M H g (L.set i (e,.row [v'] 1)) (G.set j (v',1,aQ (l++xs.flatMap fun x=>aK many (u64 x)))):=by
 have Q:=S;have ok:=S.ok;replace S:=S.base;refine aa (n:=42) (rs:=[]) rfl Tryz.e204 rfl rfl rfl (lbt rfl) ?_;simp only [BZ,I.lenq,seval];refine az (fun(k:Nat) d g=>k<=xs.length/\ ∃v',St (· ∈keys L G) hq g (L.set i (e,.row [v'] 1)) (G.set j (v',1,aQ (l++(xs.take k).flatMap fun x=>aK many (u64 x))))/\d 0=ptrTo e/\d 1=.int .i64 (many:Nat)/\d 13=f/\d 14=.int .i64 xs.length/\d 15=.int .i64 k) (fun k=>xs.length-k) ?_ 0 _ _ ?_
 . clear S;intro k R d h1 ⟨hk,v',S,r0,r1,r13,r14,r15⟩;have B:=I.mo S.fr P;by_cases hlt:k<xs.length
   . obtain⟨c,o,p,C⟩:=B.ix (kd:=.i64) (aH .i64) hlt;have w:ag .i64 ((k:Int)+1)=((k+1:Nat):Int):=(by rw [wrap64]<;>omega);have T:xs.take (k+1)=xs.take k++[xs[k]]:=Xf hlt;simp only [BZ,r13,r14,r15,an,hlt,p,C,encI,seval];refine ac au S ?_;clear S;intro h s S J;have U:[Value.int .u8 0,.int .u8 0,.int .u8 0,.int .u8 0,.int .u8 0,.int .u8 0,.int .u8 0,.int .u8 0]=lM (u64 xs[k]) 0:=rfl;rw [U]at S;simp only [BZ,bV,aA,cj,wrap_u64,seval];refine az (fun(a:Nat) d g=>a<=8/\St (· ∈keys L G) hq g ((s,.row (lM (u64 xs[k]) a) 1)::L.set i (e,.row [v'] 1)) (G.set j (v',1,aQ (l++(xs.take k).flatMap fun x=>aK many (u64 x))))/\d 0=ptrTo e/\d 1=.int .i64 (many:Nat)/\d 13=f/\d 14=.int .i64 xs.length/\d 15=.int .i64 k/\d 8=ptrTo s/\d 9=.int .u64 ((u64 xs[k]/256 ^a:Nat):Int)/\d 21=.int .i64 a) (fun a=>8-a) ?_ 0 _ _ ?_
     . clear S r0 r1 r13 r14 r15;intro a D d K ⟨ha,S,r0,r1,r13,r14,r15,r8,r9,r21⟩;have V:ag .i64 ((a:Int)+1)=((a+1:Nat):Int):=(by rw [wrap64]<;>omega);by_cases t:a<8
       . have u:(a:Int)<8:=(by omega);have N:=wrapN (k:=.u8) rfl (u64 xs[k]/256 ^a);simp only [pw]at N;have W:(u64 xs[k]/256 ^a)>>>8=u64 xs[k]/256 ^(a+1):=(by rw [Xt,XJ];rfl);simp only [BZ,bV,aA,cj,r8,r9,r21,u,N,nR (n:=8) t,pj (k:=.u64) (by decide),seval];refine aw (aq S (i:=0) rfl Tryz.t5.2.2.1 ca (by rw [kw];exact t) ono) ?_;clear S;rintro K ⟨S,_⟩;simp only [LC,sG]at S;simp only [BZ,r9,r21,pj (k:=.u64) (by decide),W,V,seval];exact D (a+1) _ _ (by omega) ⟨by omega,S,by simp [am,r0,r1,r13,r14,r15,r8,al]⟩
       . have X:a=8:=(by omega);subst X;have Y:=(S.row (b:=e) (.tail _ (Xc (dL y)))).load1 (o:=0) rfl;have O:=S.lds (b:=s) (o:=0) (n:=many) m0 (by rw [kw];omega);rw [Xd,q9 A]at O;have E:aC K 1 (.slice (some ⟨s,0,none⟩) many 8)=some (many,aQ (aK many (u64 xs[k]))):=(by simp only [aC];rw [Xj,O]);have F:=qH (n:=8) (b:=s) (many:=many) (k:=.i64) Tryz.t242.1 Tryz.t5.2.2.1 A;simp only [BZ,Xg,r15,r21,seval];refine av (ax rfl) (q:=0) (ps:=[]) (by kernel_rfl) ?_;simp only [BZ,cls,XE,XH,r0,r1,r8,Y,F,seval];refine jG (S.grow (j:=j) (m:=many) (new:=aQ (aK many (u64 xs[k]))) (dL z) Tryz.t22.1 XV (by decide) Tryz.t22.2.2.2.2.2 E (by rw [dM,aF,Xj]) (by decide) (oX _) (by
          have Z:(xs.take k).length=k:=(by rw [Xh];omega);have l2:many*k<=8*k:=Xx _ A;rw [dM,dM,aF,Xa,dO (fun x=>aF many _),Z];omega)) ?_
         clear S;rintro h3 v2 S;have fv:=(S.gown _ (Xc (dL (dL z)))).1.fl;have tl:aQ (l++(xs.take k).flatMap fun x=>aK many (u64 x))++aQ (aK many (u64 xs[k]))=aQ (l++(xs.take (k+1)).flatMap fun x=>aK many (u64 x)):=(by rw [<-lH,T,Xn,Xs];simp);rw [set_set,tl]at S;simp only [BZ,cls,seval];refine dN (aq S (i:=i+1) (dL y) Tryz.t22.2.2.1 fv (Xb (lbt rfl)) ono) ?_;clear S;rintro h4 ⟨S,_⟩;simp only [LC,set_set]at S;simp only [BZ,r15,w,seval];exact R (k+1) _ _ (by omega) ⟨by omega,v2,S.drop1,by simp [am,r0,r1,r13,r14]⟩
     . exact⟨Xe _,S,by simp [am,r0,r1,r13,r14,r15,al]⟩
   . have:k=xs.length:=(by omega);subst this;rw [Xr]at S;simp only [BZ,r14,r15,an,hlt,seval];exact⟨v',Q.rebase S⟩
 . exact⟨Xe _,v,by rw [set_self y];simp only [Xo,Xm,Xq];rw [set_self z];exact S,by simp [am,cq,al,cV]⟩
theorem xO{M:Nat->Prop}{d hq:Hp}{L:List (Nat×Ob)}{G:List GL}(S:St M d hq L G){i j a:Nat}{v b:Value}{l:Bs}{xs:List Int}(e:L[i]? =some (a,.row [v] 1))(f:G[j]? =some (v,1,aQ l))(g:ay hq 1 (encI .u8) b xs)
 (k: ∀c,ar b c->c∉keys L G) (m:l.length+8*xs.length<=1000000):
 Ret zB 41 [ptrTo a,b] hq fun r o=> ∃v',St M d o (L.set i (a,.row [v'] 1)) (G.set j (v',1,aQ (l++xs.flatMap fun x=>aK 1 (u64 x)))):=by
 refine aa (n:=7) (rs:=[]) rfl Tryz.e41 rfl rfl rfl (lbt rfl) ?_;simp only [BZ,seval];refine step_ret (put8_ok (many:=1) S e f g k (by decide) m) ?_;rintro r h ⟨v',p⟩;simp only [BZ];exact⟨v',p⟩
theorem ry{M:Nat->Prop}{d hq:Hp}{L:List (Nat×Ob)}{G:List GL}(S:St M d hq L G){i j a:Nat}{v b:Value}{l:Bs}{xs:List Int}(e:L[i]? =some (a,.row [v] 1))(f:G[j]? =some (v,1,aQ l))(g:ay hq 1 (encI .u32) b xs)
 (k: ∀c,ar b c->c∉keys L G) (m:l.length+8*xs.length<=1000000):
 Ret zB 43 [ptrTo a,b] hq fun r o=> ∃v',St M d o (L.set i (a,.row [v'] 1)) (G.set j (v',1,aQ (l++xs.flatMap fun x=>aK 4 (u64 x)))):=by
 refine aa (n:=7) (rs:=[]) rfl Tryz.e43 rfl rfl rfl (lbt rfl) ?_;simp only [BZ,seval];refine step_ret (put32_ok (many:=4) S e f g k (by decide) m) ?_;rintro r h ⟨v',p⟩;simp only [BZ];exact⟨v',p⟩
theorem wU64_ok{M:Nat->Prop}{d hq:Hp}{L:List (Nat×Ob)}{G:List GL}(S:St M d hq L G){i j a:Nat}{v b:Value}{l:Bs}{xs:List Int}(e:L[i]? =some (a,.row [v] 1))(f:G[j]? =some (v,1,aQ l))(g:ay hq 1 (encI .u64) b xs)
 (k: ∀c,ar b c->c∉keys L G) (m: ∀x∈xs,((u64 x:Nat):Int)=x) (o:l.length+8*xs.length<=1000000):
 Ret zB 42 [ptrTo a,b] hq fun r p=> ∃v',St M d p (L.set i (a,.row [v'] 1)) (G.set j (v',1,aQ (l++xs.flatMap fun x=>aK 8 (u64 x)))):=by
 refine aa (n:=7) (rs:=[]) rfl Tryz.e42 rfl rfl rfl (lbt rfl) ?_;simp only [BZ,seval];refine step_ret (put64_ok (many:=8) S e f g k (by decide) m o) ?_;rintro r h ⟨v',q⟩;simp only [BZ];exact⟨v',q⟩
theorem yd{M:Nat->Prop}{d hq:Hp}{L:List (Nat×Ob)}{G:List GL}(S:St M d hq L G){i j a:Nat}{v b:Value}{l:Bs}{xs:List Int}(e:L[i]? =some (a,.row [v] 1))(f:G[j]? =some (v,1,aQ l))(g:ay hq 1 (encI .i64) b xs)
 (k: ∀c,ar b c->c∉keys L G) (m:l.length+8*xs.length<=1000000):
 Ret zB 154 [ptrTo a,b] hq fun r o=> ∃v',St M d o (L.set i (a,.row [v'] 1)) (G.set j (v',1,aQ (l++xs.flatMap fun x=>aK 8 (u64 x)))):=by
 refine aa (n:=7) (rs:=[]) rfl Tryz.e154 rfl rfl rfl (lbt rfl) ?_;simp only [BZ,seval];refine step_ret (putI_ok (many:=8) S e f g k (by decide) m) ?_;rintro r h ⟨v',p⟩;simp only [BZ];exact⟨v',p⟩
theorem Bu{M:Nat->Prop}{c hq:Hp}{L:List (Nat×Ob)}{G:List GL}(S:St M c hq L G){i j a:Nat}{v:Value}{l m:Bs}(d:L[i]? =some (a,.row [v] 1))(e:G[j]? =some (v,1,aQ l))(q:l.length+m.length<=1000000):
 Ret zB 40 [ptrTo a,sv m] hq fun r f=> ∃v',St M c f (L.set i (a,.row [v'] 1)) (G.set j (v',1,aQ (l++m))):=by
 have s:=S.ok;have g:=(S.row (b:=a) (Xc d)).load1 (o:=0) rfl;refine aa (n:=15) (rs:=[]) rfl Tryz.e40 rfl rfl rfl (lbt rfl) ?_;simp only [BZ,g,seval];refine dX (S.grow (j:=j) (m:=m.length) (new:=aQ m) e Tryz.t22.1 XV (by decide) Tryz.t9.2.2.2.2 src_sv (by rw [dM,Xj]) (by decide) (oX _) (by rw [dM,dM];omega)) ?_;clear S;rintro h k S;have p:=(S.gown _ (Xc (dL e))).1.fl;rw [<-lH]at S;simp only [BZ,seval];refine aw (aq S (i:=i) d Tryz.t22.2.2.1 p (Xb (lbt rfl)) ono) ?_;clear S;rintro h ⟨S,_⟩;simp only [LC]at S;simp only [BZ];exact⟨k,S⟩
theorem by_of{h:Hp}{v:Value}{l:Bs}(g:iB h (v,1,aQ l)):BySl h v l:=g.sl (byF l).symm (fun _=>rfl) (by decide)
theorem kV{a:Hp}(c:a.t.Sized a.n){b:Nat}{v:Value}{l:Bs}(d:a.load b 0 1=some [v])(g:iB a (v,1,aQ l)):bG zB 45 [ptrTo b] a (sv l):=by have S:=Si c;refine aa (n:=10) (rs:=[.tmp 2]) rfl Tryz.e45 rfl rfl rfl (lbt rfl) ?_;simp only [BZ,bV,aA,ab,d,vP (by_of g),seval];exact S.gr
theorem pd{M:Nat->Prop}{b hq:Hp}{L:List (Nat×Ob)}{G:List GL}(S:St M b hq L G):Ret zB 39 [] hq fun r d=> ∃a,r=ptrTo a/\St M b d ((a,.row [.slice none 0 0] 1)::L) ((.slice none 0 0,1,aQ [])::G):=by have f:=S.ok;refine aa (n:=3) (rs:=[.tmp 0]) rfl Tryz.e39 rfl rfl rfl (lbt rfl) ?_;simp only [BZ,seval];refine ac (bR (by intro x e;cases e)) S ?_;clear S;intro h a S c;simp only [ae]at S;simp only [BZ,ab,seval];exact⟨a,rfl,S.nilG⟩
def rdC(s:Bs)(a:Nat)(f:Value):List Value:=[sv s,.int .i64 (a:Nat),f]
def RdF(f:Value)(bad:Bool):Prop:=if bad=true then∃x,f=.pointer (some x)else f=.pointer none
def Int4(l:List Value):Prop:= ∃x y z w:Int,l=[.int .i64 x,.int .i64 y,.int .i64 z,.int .i64 w]
def RdO(d h:Hp)(f:Value)(bad:Bool)(c:Value)(a:Bool):Prop:=RdF c a/\((c=f/\a=bad)\/ ∃b l,c=ptrTo b/\d.n<=b/\Int4 l/\Row h b l 1)
def bM(s:Bs)(a:Nat)(bad:Bool)(n:Nat):Bs×Nat×Bool:=if bad=true\/s.length<a+n then([],a,true)else((s.drop a).take n,a+n,false)
theorem kJ{s:Bs}{a n:Nat}{bad:Bool}:(bM s a bad n).1.length<=n:=by unfold bM;split<;>simp<;>omega
theorem nV{s:Bs}{a n:Nat}{bad:Bool}(h:a<=s.length):(bM s a bad n).2.1<=s.length:=by
 unfold bM;split
 . exact h
 . show a+n<=s.length;omega
theorem rI{M:Nat->Prop}{p hq:Hp}{L:List (Nat×Ob)}{G:List GL}(S:St M p hq L G){i g:Nat}{s:Bs}{a n:Nat}{f:Value}{bad:Bool}(j:L[i]? =some (g,.row (rdC s a f) 1))(hf:RdF f bad)(F:a<=s.length)(H:s.length<=1000000)(I:n<=10000000):
 Ret zB 173 [ptrTo g,.int .i64 (n:Nat)] hq fun r y=>r=sv (bM s a bad n).1/\ ∃z,RdO p y f bad z (bM s a bad n).2.2/\St M p y (L.set i (g,.row (rdC s (bM s a bad n).2.1 z) 1)) G:=by
 have J:=S.ok;have R:=S.row (b:=g) (Xc j);have t:=R.load1 (o:=0) rfl;have u:=R.load1 (o:=1) rfl;have v:=R.load1 (o:=2) rfl;cases bad with
 | true=>
   obtain⟨x,rfl⟩:=hf;refine aa (n:=74) (rs:=[.tmp 4]) rfl Tryz.e173 rfl rfl rfl (lbt rfl) ?_;simp only [BZ,ab,v,seval];exact⟨rfl,_,⟨⟨x,rfl⟩,.inl ⟨rfl,rfl⟩⟩,by unfold bM;rw [if_pos (.inl rfl),set_self j];exact S⟩
 | false=>
   have hf:f=.pointer none:=hf;subst hf;have A: ¬((n:Int)<0):=(by omega);have B:ag .i64 ((s.length:Int)-(a:Int))=((s.length-a:Nat):Int):=(by rw [wrap64]<;>omega);have D:ag .i64 ((a:Int)+(n:Int))=((a+n:Nat):Int):=(by rw [wrap64]<;>omega);by_cases m:s.length<a+n
   . have w:((s.length-a:Nat):Int)<(n:Int):=(by omega);refine aa (n:=74) (rs:=[.tmp 4]) rfl Tryz.e173 rfl rfl rfl (lbt rfl) ?_;simp only [BZ,v,A,seval];refine av (ax rfl) (q:=0) (ps:=[]) (by kernel_rfl) ?_;simp only [BZ,cls,t,u,dK,B,w,seval];refine ac (bR (by intro x e;cases e)) S ?_;clear S;intro h C S d;simp only [ae]at S;simp only [BZ,seval];refine aw (aq S (i:=i+1) j Tryz.t128.2.2.1 cS (Xb (lbt rfl)) ono) ?_;clear S;rintro h ⟨S,_⟩;simp only [BZ,ab,seval];exact⟨by unfold bM;rw [if_pos (.inr m)];rfl,.pointer (some ⟨C,0,none⟩),by unfold bM;rw [if_pos (.inr m)];exact⟨⟨_,rfl⟩,.inr ⟨C,_,rfl,d,⟨_,_,_,_,rfl⟩,S.row (Xc (i:=0) rfl)⟩⟩,by unfold bM;rw [if_pos (.inr m)];exact S.drop1⟩
   . have w: ¬((s.length-a:Nat):Int)<(n:Int):=(by omega);have E:=slice_sv (l:=s) (k:=.i64) (k':=.i64) (a:=a) (b:=a+n) Tryz.t9.1 (by omega) (by omega);refine aa (n:=74) (rs:=[.tmp 4]) rfl Tryz.e173 rfl rfl rfl (lbt rfl) ?_;simp only [BZ,v,A,seval];refine av (ax rfl) (q:=0) (ps:=[]) (by kernel_rfl) ?_;simp only [BZ,cls,t,u,dK,B,w,seval];refine av (ax rfl) (q:=0) (ps:=[]) (by kernel_rfl) ?_;simp only [BZ,cls,XE,XH,t,u,D,E,seval];refine aw (aq S (i:=i) j Tryz.t3.2.2.1 ca (Xb (lbt rfl)) ono) ?_;clear S;rintro h ⟨S,_⟩;simp only [BZ,ab,seval];have e:(s.take (a+n)).drop a=(s.drop a).take n:=(by rw [List.drop_take];congr 1;omega);have c: ¬((false:Bool)=true\/s.length<a+n):=(by rintro(h|h);cases h;exact m h);exact⟨by unfold bM;rw [if_neg c,e],.pointer none,by unfold bM;rw [if_neg c];exact⟨rfl,.inl ⟨rfl,rfl⟩⟩,by unfold bM;rw [if_neg c];exact S⟩
theorem xA{l:Bs}{i:Nat}(h:i<l.length):bC (l.take i)|||(l[i].toNat*2 ^(8*i))=bC (l.take (i+1)):=by
 have a:(l.take i).length=i:=by rw [Xh];omega
 have b:=jX (l.take i);rw [a,show(256:Nat)=2 ^8 from rfl,<-Nat.pow_mul]at b;rw [Xf h,Cn,a,show(256:Nat) ^i=2 ^(8*i) by rw [Nat.pow_mul]];have:=Nat.two_pow_add_eq_or_of_lt b l[i].toNat;rw [Nat.or_comm,X4 l[i].toNat,<-this,show bC [l[i]]=l[i].toNat by simp [bC]];omega
theorem wD{M:Nat->Prop}{d hq:Hp}{L:List (Nat×Ob)}{G:List GL}(S:St M d hq L G){i e:Nat}{s:Bs}{a:Nat}{f:Value}{bad:Bool}(D:L[i]? =some (e,.row (rdC s a f) 1))(hf:RdF f bad)(F:a<=s.length)(H:s.length<=1000000):
 Ret zB 112 [ptrTo e] hq fun r b=>r=.int .u8 (bC (bM s a bad 1).1:Nat)/\ ∃g,RdO d b f bad g (bM s a bad 1).2.2/\St M d b (L.set i (e,.row (rdC s (bM s a bad 1).2.1 g) 1)) G:=by
 have R:=S.ok;have v:=kJ (s:=s) (a:=a) (n:=1) (bad:=bad);have m:Ret zB 166 [ptrTo e,.int .i64 1] hq fun r b=>r=.int .u8 (bC (bM s a bad 1).1:Nat)/\ ∃g,RdO d b f bad g (bM s a bad 1).2.2/\St M d b (L.set i (e,.row (rdC s (bM s a bad 1).2.1 g) 1)) G:=by
  refine aa (n:=28) (rs:=[.tmp 4]) rfl Tryz.e166 rfl rfl rfl (lbt rfl) ?_;simp only [BZ,seval];refine step_ret (rI (n:=1) S D hf F H (by decide)) ?_;rintro r h ⟨rfl,P⟩;generalize(bM s a bad 1).1=l at v;have T:=jX l;have I:256 ^l.length<=256 ^1:=Xp (by decide) v;simp only [seval]at I;simp only [BZ,dK,seval];refine az (fun(k:Nat) j b=>k<=l.length/\b=h/\j 5=sv l/\j 6=.int .u64 (bC (l.take k):Nat)/\j 12=.int .i64 l.length/\j 13=.int .i64 k) (fun k=>l.length-k) ?_ 0 _ _ ?_
  . rintro k J j b ⟨U,rfl,z,o,c,r13⟩;have w:ag .i64 ((k:Int)+1)=((k+1:Nat):Int):=(by rw [wrap64]<;>omega);by_cases hlt:k<l.length
    . have V:=sK l[k];have K:=cD (k:=.u64) rfl (n:=l[k].toNat) (by simp only [pw];omega);have N:ag .i64 (8*(k:Int))=((8*k:Nat):Int):=(by rw [wrap64]<;>omega);have A:l[k].toNat*2 ^(8*k)<18446744073709551616:=(by have:k=0\/k=1\/k=2\/k=3\/k=4\/k=5\/k=6\/k=7:=(by omega);rcases this with rfl|rfl|rfl|rfl|rfl|rfl|rfl|rfl<;>simp only [seval]<;>omega);have O:bC (l.take k)<18446744073709551616:=(by have W:=jX (l.take k);have:256 ^(l.take k).length<=256 ^8:=Xp (by decide) (by rw [Xh];omega);omega);have B:=fun(t:TypeId) (p q:Operand)=>wE (E:=zB) (t:=t) (p:=p) (q:=q) (k:=.u64) (k':=.i64) (x:=l[k].toNat) (y:=8*k) rfl (by show _<=64;omega);simp only [pw,XS A]at B;have C:=fun(t:TypeId) (p q:Operand)=>b_orN (E:=zB) (t:=t) (p:=p) (q:=q) (k:=.u64) (x:=bC (l.take k)) (y:=l[k].toNat*2 ^(8*k)) rfl O A;simp only [xA hlt]at C;simp only [BZ,bV,aA,cj,z,o,c,r13,an,hlt,qr Tryz.t9.1 hlt,K,N,B,C,w,seval];exact J (k+1) _ _ (by omega) ⟨by omega,rfl,by simp [am,z,c]⟩
    . have u:k=l.length:=(by omega);subst u;rw [Xr]at o;have Q:ag .u8 ((bC l:Nat):Int)=_:=cD rfl (by simp only [pw];omega);simp only [BZ,bV,aA,cj,ab,o,c,r13,an,hlt,Q,seval];exact P
  . exact⟨Xe _,rfl,by simp [am,bC]⟩
 refine aa (n:=5) (rs:=[.tmp 2]) rfl Tryz.e112 rfl rfl rfl (lbt rfl) ?_;simp only [BZ,seval];refine step_ret m ?_;rintro r h ⟨rfl,P⟩;simp only [BZ,ab,seval];exact P
theorem xX{M:Nat->Prop}{d hq:Hp}{L:List (Nat×Ob)}{G:List GL}(S:St M d hq L G){i e:Nat}{s:Bs}{a:Nat}{f:Value}{bad:Bool}(D:L[i]? =some (e,.row (rdC s a f) 1))(hf:RdF f bad)(F:a<=s.length)(H:s.length<=1000000):
 Ret zB 121 [ptrTo e] hq fun r b=>r=.int .u32 (bC (bM s a bad 4).1:Nat)/\ ∃g,RdO d b f bad g (bM s a bad 4).2.2/\St M d b (L.set i (e,.row (rdC s (bM s a bad 4).2.1 g) 1)) G:=by
 have R:=S.ok;have v:=kJ (s:=s) (a:=a) (n:=4) (bad:=bad);have m:Ret zB 172 [ptrTo e,.int .i64 4] hq fun r b=>r=.int .u32 (bC (bM s a bad 4).1:Nat)/\ ∃g,RdO d b f bad g (bM s a bad 4).2.2/\St M d b (L.set i (e,.row (rdC s (bM s a bad 4).2.1 g) 1)) G:=by
  refine aa (n:=28) (rs:=[.tmp 4]) rfl Tryz.e172 rfl rfl rfl (lbt rfl) ?_;simp only [BZ,seval];refine step_ret (rI (n:=4) S D hf F H (by decide)) ?_;rintro r h ⟨rfl,P⟩;generalize(bM s a bad 4).1=l at v;have T:=jX l;have I:256 ^l.length<=256 ^4:=Xp (by decide) v;simp only [seval]at I;simp only [BZ,dK,seval];refine az (fun(k:Nat) j b=>k<=l.length/\b=h/\j 5=sv l/\j 6=.int .u64 (bC (l.take k):Nat)/\j 12=.int .i64 l.length/\j 13=.int .i64 k) (fun k=>l.length-k) ?_ 0 _ _ ?_
  . rintro k J j b ⟨U,rfl,z,o,c,r13⟩;have w:ag .i64 ((k:Int)+1)=((k+1:Nat):Int):=(by rw [wrap64]<;>omega);by_cases hlt:k<l.length
    . have V:=sK l[k];have K:=cD (k:=.u64) rfl (n:=l[k].toNat) (by simp only [pw];omega);have N:ag .i64 (8*(k:Int))=((8*k:Nat):Int):=(by rw [wrap64]<;>omega);have A:l[k].toNat*2 ^(8*k)<18446744073709551616:=(by have:k=0\/k=1\/k=2\/k=3\/k=4\/k=5\/k=6\/k=7:=(by omega);rcases this with rfl|rfl|rfl|rfl|rfl|rfl|rfl|rfl<;>simp only [seval]<;>omega);have O:bC (l.take k)<18446744073709551616:=(by have W:=jX (l.take k);have:256 ^(l.take k).length<=256 ^8:=Xp (by decide) (by rw [Xh];omega);omega);have B:=fun(t:TypeId) (p q:Operand)=>wE (E:=zB) (t:=t) (p:=p) (q:=q) (k:=.u64) (k':=.i64) (x:=l[k].toNat) (y:=8*k) rfl (by show _<=64;omega);simp only [pw,XS A]at B;have C:=fun(t:TypeId) (p q:Operand)=>b_orN (E:=zB) (t:=t) (p:=p) (q:=q) (k:=.u64) (x:=bC (l.take k)) (y:=l[k].toNat*2 ^(8*k)) rfl O A;simp only [xA hlt]at C;simp only [BZ,bV,aA,cj,z,o,c,r13,an,hlt,qr Tryz.t9.1 hlt,K,N,B,C,w,seval];exact J (k+1) _ _ (by omega) ⟨by omega,rfl,by simp [am,z,c]⟩
    . have u:k=l.length:=(by omega);subst u;rw [Xr]at o;have Q:ag .u32 ((bC l:Nat):Int)=_:=cD rfl (by simp only [pw];omega);simp only [BZ,bV,aA,cj,ab,o,c,r13,an,hlt,Q,seval];exact P
  . exact⟨Xe _,rfl,by simp [am,bC]⟩
 refine aa (n:=5) (rs:=[.tmp 2]) rfl Tryz.e121 rfl rfl rfl (lbt rfl) ?_;simp only [BZ,seval];refine step_ret m ?_;rintro r h ⟨rfl,P⟩;simp only [BZ,ab,seval];exact P
theorem rU64_ok{M:Nat->Prop}{d hq:Hp}{L:List (Nat×Ob)}{G:List GL}(S:St M d hq L G){i e:Nat}{s:Bs}{a:Nat}{f:Value}{bad:Bool}(D:L[i]? =some (e,.row (rdC s a f) 1))(hf:RdF f bad)(F:a<=s.length)(H:s.length<=1000000):
 Ret zB 171 [ptrTo e] hq fun r b=>r=.int .u64 (bC (bM s a bad 8).1:Nat)/\ ∃g,RdO d b f bad g (bM s a bad 8).2.2/\St M d b (L.set i (e,.row (rdC s (bM s a bad 8).2.1 g) 1)) G:=by
 have Q:=S.ok;have v:=kJ (s:=s) (a:=a) (n:=8) (bad:=bad);have m:Ret zB 211 [ptrTo e,.int .i64 8] hq fun r b=>r=.int .u64 (bC (bM s a bad 8).1:Nat)/\ ∃g,RdO d b f bad g (bM s a bad 8).2.2/\St M d b (L.set i (e,.row (rdC s (bM s a bad 8).2.1 g) 1)) G:=by
  refine aa (n:=27) (rs:=[.tmp 4]) rfl Tryz.e211 rfl rfl rfl (lbt rfl) ?_;simp only [BZ,seval];refine step_ret (rI (n:=8) S D hf F H (by decide)) ?_;rintro r h ⟨rfl,P⟩;generalize(bM s a bad 8).1=l at v;have R:=jX l;have I:256 ^l.length<=256 ^8:=Xp (by decide) v;simp only [seval]at I;simp only [BZ,dK,seval];refine az (fun(k:Nat) j b=>k<=l.length/\b=h/\j 5=sv l/\j 6=.int .u64 (bC (l.take k):Nat)/\j 12=.int .i64 l.length/\j 13=.int .i64 k) (fun k=>l.length-k) ?_ 0 _ _ ?_
  . rintro k J j b ⟨T,rfl,z,o,c,r13⟩;have w:ag .i64 ((k:Int)+1)=((k+1:Nat):Int):=(by rw [wrap64]<;>omega);by_cases hlt:k<l.length
    . have U:=sK l[k];have K:=cD (k:=.u64) rfl (n:=l[k].toNat) (by simp only [pw];omega);have N:ag .i64 (8*(k:Int))=((8*k:Nat):Int):=(by rw [wrap64]<;>omega);have A:l[k].toNat*2 ^(8*k)<18446744073709551616:=(by have:k=0\/k=1\/k=2\/k=3\/k=4\/k=5\/k=6\/k=7:=(by omega);rcases this with rfl|rfl|rfl|rfl|rfl|rfl|rfl|rfl<;>simp only [seval]<;>omega);have O:bC (l.take k)<18446744073709551616:=(by have V:=jX (l.take k);have:256 ^(l.take k).length<=256 ^8:=Xp (by decide) (by rw [Xh];omega);omega);have B:=fun(t:TypeId) (p q:Operand)=>wE (E:=zB) (t:=t) (p:=p) (q:=q) (k:=.u64) (k':=.i64) (x:=l[k].toNat) (y:=8*k) rfl (by show _<=64;omega);simp only [pw,XS A]at B;have C:=fun(t:TypeId) (p q:Operand)=>b_orN (E:=zB) (t:=t) (p:=p) (q:=q) (k:=.u64) (x:=bC (l.take k)) (y:=l[k].toNat*2 ^(8*k)) rfl O A;simp only [xA hlt]at C;simp only [BZ,bV,aA,cj,z,o,c,r13,an,hlt,qr Tryz.t9.1 hlt,K,N,B,C,w,seval];exact J (k+1) _ _ (by omega) ⟨by omega,rfl,by simp [am,z,c]⟩
    . have u:k=l.length:=(by omega);subst u;rw [Xr]at o;simp only [BZ,ab,o,c,r13,an,hlt,seval];exact P
  . exact⟨Xe _,rfl,by simp [am,bC]⟩
 refine aa (n:=5) (rs:=[.tmp 2]) rfl Tryz.e171 rfl rfl rfl (lbt rfl) ?_;simp only [BZ,seval];refine step_ret m ?_;rintro r h ⟨rfl,P⟩;simp only [BZ,ab,seval];exact P
theorem uy{M:Nat->Prop}{d hq:Hp}{L:List (Nat×Ob)}{G:List GL}(S:St M d hq L G){i e:Nat}{s:Bs}{a:Nat}{f:Value}{bad:Bool}(D:L[i]? =some (e,.row (rdC s a f) 1))(hf:RdF f bad)(F:a<=s.length)(H:s.length<=1000000):
 Ret zB 109 [ptrTo e] hq fun r b=>r=.int .i64 (mi (bM s a bad 8).1)/\ ∃g,RdO d b f bad g (bM s a bad 8).2.2/\St M d b (L.set i (e,.row (rdC s (bM s a bad 8).2.1 g) 1)) G:=by
 have R:=S.ok;have v:=kJ (s:=s) (a:=a) (n:=8) (bad:=bad);have m:Ret zB 165 [ptrTo e,.int .i64 8] hq fun r b=>r=.int .i64 (mi (bM s a bad 8).1)/\ ∃g,RdO d b f bad g (bM s a bad 8).2.2/\St M d b (L.set i (e,.row (rdC s (bM s a bad 8).2.1 g) 1)) G:=by
  refine aa (n:=28) (rs:=[.tmp 4]) rfl Tryz.e165 rfl rfl rfl (lbt rfl) ?_;simp only [BZ,seval];refine step_ret (rI (n:=8) S D hf F H (by decide)) ?_;rintro r h ⟨rfl,P⟩;generalize(bM s a bad 8).1=l at v;have T:=jX l;have I:256 ^l.length<=256 ^8:=Xp (by decide) v;simp only [seval]at I;simp only [BZ,dK,seval];refine az (fun(k:Nat) j b=>k<=l.length/\b=h/\j 5=sv l/\j 6=.int .u64 (bC (l.take k):Nat)/\j 12=.int .i64 l.length/\j 13=.int .i64 k) (fun k=>l.length-k) ?_ 0 _ _ ?_
  . rintro k J j b ⟨U,rfl,z,o,c,r13⟩;have w:ag .i64 ((k:Int)+1)=((k+1:Nat):Int):=(by rw [wrap64]<;>omega);by_cases hlt:k<l.length
    . have V:=sK l[k];have K:=cD (k:=.u64) rfl (n:=l[k].toNat) (by simp only [pw];omega);have N:ag .i64 (8*(k:Int))=((8*k:Nat):Int):=(by rw [wrap64]<;>omega);have A:l[k].toNat*2 ^(8*k)<18446744073709551616:=(by have:k=0\/k=1\/k=2\/k=3\/k=4\/k=5\/k=6\/k=7:=(by omega);rcases this with rfl|rfl|rfl|rfl|rfl|rfl|rfl|rfl<;>simp only [seval]<;>omega);have O:bC (l.take k)<18446744073709551616:=(by have W:=jX (l.take k);have:256 ^(l.take k).length<=256 ^8:=Xp (by decide) (by rw [Xh];omega);omega);have B:=fun(t:TypeId) (p q:Operand)=>wE (E:=zB) (t:=t) (p:=p) (q:=q) (k:=.u64) (k':=.i64) (x:=l[k].toNat) (y:=8*k) rfl (by show _<=64;omega);simp only [pw,XS A]at B;have C:=fun(t:TypeId) (p q:Operand)=>b_orN (E:=zB) (t:=t) (p:=p) (q:=q) (k:=.u64) (x:=bC (l.take k)) (y:=l[k].toNat*2 ^(8*k)) rfl O A;simp only [xA hlt]at C;simp only [BZ,bV,aA,cj,z,o,c,r13,an,hlt,qr Tryz.t9.1 hlt,K,N,B,C,w,seval];exact J (k+1) _ _ (by omega) ⟨by omega,rfl,by simp [am,z,c]⟩
    . have u:k=l.length:=(by omega);subst u;rw [Xr]at o;have Q:ag .i64 ((bC l:Nat):Int)=_:=wrap_i64 (by omega);simp only [BZ,bV,aA,cj,ab,o,c,r13,an,hlt,Q,seval];exact⟨rfl,P⟩
  . exact⟨Xe _,rfl,by simp [am,bC]⟩
 refine aa (n:=5) (rs:=[.tmp 2]) rfl Tryz.e109 rfl rfl rfl (lbt rfl) ?_;simp only [BZ,seval];refine step_ret m ?_;rintro r h ⟨rfl,P⟩;simp only [BZ,ab,seval];exact P
theorem By{M:Nat->Prop}{b hq:Hp}{L:List (Nat×Ob)}{G:List GL}(S:St M b hq L G){i c:Nat}{s:Bs}{a n:Nat}{f:Value}{bad:Bool}(g:L[i]? =some (c,.row (rdC s a f) 1))(hf:RdF f bad)(j:a<=s.length)(k:s.length<=1000000)(l:n<=10000000):
 Ret zB 125 [ptrTo c,.int .i64 (n:Nat)] hq fun r d=>r=sv (bM s a bad n).1/\ ∃e,RdO b d f bad e (bM s a bad n).2.2/\St M b d (L.set i (c,.row (rdC s (bM s a bad n).2.1 e) 1)) G:=by
 have m:=S.ok;refine aa (n:=8) (rs:=[.tmp 4]) rfl Tryz.e125 rfl rfl rfl (lbt rfl) ?_;simp only [BZ,seval];refine step_ret (rI S g hf j k l) ?_;rintro r h ⟨rfl,P⟩;simp only [BZ,ab,seval];exact P
theorem rAt_ok{b:Hp}(d:b.t.Sized b.n){c:Nat}{s:Bs}{a:Nat}{f:Value}(R:Row b c (rdC s a f) 1):bG zB 120 [ptrTo c] b (.int .i64 (a:Nat)):=by have S:=Si d;refine aa (n:=9) (rs:=[.tmp 2]) rfl Tryz.e120 rfl rfl rfl (lbt rfl) ?_;simp only [BZ,ab,R.load1 (o:=1) rfl,seval];exact S.gr
theorem rLeft_ok{b:Hp}(d:b.t.Sized b.n){c:Nat}{s:Bs}{a:Nat}{f:Value}(R:Row b c (rdC s a f) 1)(g:a<=s.length)(h:s.length<=1000000):bG zB 124 [ptrTo c] b (.int .i64 (s.length-a:Nat)):=by
 have S:=Si d;have e:ag .i64 ((s.length:Int)-(a:Int))=((s.length-a:Nat):Int):=by rw [wrap64]<;>omega
 refine aa (n:=15) (rs:=[.tmp 2]) rfl Tryz.e124 rfl rfl rfl (lbt rfl) ?_;simp only [BZ,seval];refine av (ax rfl) (q:=0) (ps:=[]) (by kernel_rfl) ?_;simp only [BZ,cls,ab,R.load1 (o:=0) rfl,R.load1 (o:=1) rfl,dK,e,seval];exact S.gr
def jb(i:Nat):List Value:=(zM 16).map fun j=>.int .u32 ((if j<i then da 4 j else 0:Nat):Int)
theorem jv(i:Nat):(jb i).length=16:=by simp [jb]
theorem halfC_set{i:Nat}:(jb i).set i (.int .u32 ((da 4 i:Nat):Int))=jb (i+1):=by
 unfold jb;have:=kD (N:=16) (k:=i) (F:=fun j=>Value.int .u32 ((if j<i then da 4 j else 0:Nat):Int)) (F':=fun j=>Value.int .u32 ((if j<i+1 then da 4 j else 0:Nat):Int)) (fun j _ a=>by
  by_cases h:j<i
  . rw [if_pos h,if_pos (by omega)]
  . rw [if_neg h,if_neg (by omega)])
 rw [<-this,if_pos (by omega)]
theorem halfC_at{j:Nat}(h:j<16):(jb 16)[j]? =some (.int .u32 ((da 4 j:Nat):Int)):=by unfold jb;rw [n9 (F:=fun j=>Value.int .u32 ((if j<16 then da 4 j else 0:Nat):Int)) h,if_pos h]
theorem step_and{r:Nat}(h:r<4294967296): ∃m:Nat,m<4294967296/\unP .neg (.int .u32 ((r&&& 1:Nat):Int))=some (.int .u32 (m:Int))/\(r>>>1) ^^^(3988292384&&& m)=j8 r:=by
 have e:r&&& 1=r%2:=Nat.and_one_is_mod r;rcases Nat.mod_two_eq_zero_or_one r with a|a
 . refine⟨0,by decide,by rw [e,a];rfl,?_⟩;unfold j8;rw [a];simp
 . refine⟨4294967295,by decide,by rw [e,a];rfl,?_⟩;unfold j8;rw [a];rfl
theorem b_and1{E:Env}{t:TypeId}{p q:Operand}{x:Nat}(h:x<4294967296):aZ E .and t p q (.int .u32 (x:Int)) (.int .u32 1)=some (.int .u32 ((x&&& 1:Nat):Int)):=s8 (k:=.u32) (y:=1) rfl h (by decide)
theorem b_andT{E:Env}{t:TypeId}{p q:Operand}{x:Nat}(h:x<4294967296):aZ E .and t p q (.int .u32 3988292384) (.int .u32 (x:Int))=some (.int .u32 ((3988292384&&& x:Nat):Int)):=s8 (k:=.u32) (x:=3988292384) rfl (by decide) h
theorem b_and15{E:Env}{t:TypeId}{p q:Operand}{x:Nat}(h:x<4294967296):aZ E .and t p q (.int .u32 (x:Int)) (.int .u32 15)=some (.int .u32 ((x%16:Nat):Int)):=by have:=s8 (E:=E) (t:=t) (p:=p) (q:=q) (k:=.u32) (x:=x) (y:=15) rfl h (by decide);rw [show x&&& 15=x%16 from Nat.and_two_pow_sub_one_eq_mod (n:=4) x]at this;exact this
theorem b_shr1U{E:Env}{t:TypeId}{p q:Operand}{x:Nat}:aZ E .shr t p q (.int .u32 (x:Int)) (.int .u64 1)=some (.int .u32 ((x>>>1:Nat):Int)):=s9 (k:=.u32) (k':=.u64) (y:=1) (by decide)
theorem lay_all{l m:List Value}(h:l.length=m.length):lay l 0 m=m:=by simp [lay,h]
theorem xc(i:Nat):(jb i).all iQ=true:=by simp [jb,iQ]
theorem halves_ok{r:Hp}(F:r.t.Sized r.n):bG zB 209 [] r (.agg ⟨jb 16⟩):=by
 have S:=Si F;refine aa (n:=23) (rs:=[.cell 0 301]) rfl Tryz.e209 rfl rfl rfl (lbt rfl) ?_;simp only [BZ];refine ac au S ?_;clear S;intro h j S u;have v:[Value.int .u32 0,.int .u32 0,.int .u32 0,.int .u32 0,.int .u32 0,.int .u32 0,.int .u32 0,.int .u32 0,.int .u32 0,.int .u32 0,.int .u32 0,.int .u32 0,.int .u32 0,.int .u32 0,.int .u32 0,.int .u32 0]=jb 0:=rfl;rw [v]at S;simp only [BZ];refine az (fun(i:Nat) c h=>i<=16/\St NoM r h [(j,.row (jb i) 1)] []/\c 0=ptrTo j/\c 3=.int .i64 i) (fun i=>16-i) ?_ 0 _ _ ?_
 . clear S v;intro i G c h ⟨hi,S,d,f⟩;have w:ag .i64 ((i:Int)+1)=((i+1:Nat):Int):=(by rw [wrap64]<;>omega);by_cases hlt:i<16
   . have g:(i:Int)<16:=(by omega);have H:=cD (k:=.u32) rfl (n:=i) (by simp only [pw];omega);simp only [BZ,bV,aA,cj,f,g,H,seval];refine az (fun(k:Nat) c z=>k<=4/\z=h/\c 0=ptrTo j/\c 1=.int .i64 i/\c 2=.int .u32 (da k i:Nat)/\c 3=.int .i64 i/\c 8=.int .i64 k) (fun k=>4-k) ?_ 0 _ _ ?_
     . clear d f;rintro k s c z ⟨P,rfl,d,A,B,f,r8⟩;have I:ag .i64 ((k:Int)+1)=((k+1:Nat):Int):=(by rw [wrap64]<;>omega);by_cases J:k<4
       . have l:(k:Int)<4:=(by omega);have C:da k i<4294967296:=yp (by omega);obtain⟨m,K,L,M⟩:=step_and C;have N:=fun(t:TypeId) (p q:Operand)=>b_andT (E:=zB) (t:=t) (p:=p) (q:=q) K;have O:(da k i)>>>1<4294967296:=(by rw [Xt];omega);have D:=fun(t:TypeId) (p q:Operand)=>tU (E:=zB) (t:=t) (p:=p) (q:=q) (k:=.u32) (x:=(da k i)>>>1) (y:=3988292384&&& m) rfl O (Nat.lt_of_le_of_lt Nat.and_le_left (by decide));rw [M,<-crcN_succ]at D;simp only [BZ,B,r8,l,b_shr1U,b_and1 C,L,N,D,I,seval];exact s (k+1) _ _ (by omega) ⟨by omega,rfl,by simp [am,d,A,f]⟩
       . have:k=4:=(by omega);subst this;simp only [BZ,Xg,d,A,B,f,r8,nR (n:=16) hlt,seval];refine aw (aq S (i:=0) rfl Tryz.t58.2.2.1 ca (by rw [jv];exact hlt) ono) ?_;clear S;rintro h ⟨S,_⟩;simp only [LC,halfC_set]at S;simp only [BZ,f,w,seval];exact G (i+1) _ _ (by omega) ⟨by omega,S,by simp [am,d]⟩
     . exact⟨Xe _,rfl,by simp [am,d,da,f]⟩
   . have g: ¬(i:Int)<16:=(by omega);have:i=16:=(by omega);subst this;have a:=S.lds (b:=j) (o:=0) (n:=16) m0 (by rw [jv];decide);rw [Xd,XA (by rw [jv];decide)]at a;simp only [BZ,Xg,d,f,a,seval];refine aw (S.store (i:=0) rfl Tryz.t301.2.2.1 (by intro x e;cases e) (jv 16) (xc 16) (Nat.le_of_eq (by show 0+(jb 16).length=_;rw [Xk])) ono) ?_;clear S;rintro h ⟨S,_⟩;simp only [LC,ae]at S;rw [lay_all rfl]at S;have a:=S.lds (b:=j) (o:=0) (n:=16) m0 (by rw [jv];decide);rw [Xd,XA (by rw [jv];decide)]at a;simp only [BZ,ab];exact(fd (by decide) (by simp only [aS,d,al,seval];exact gD Tryz.t301.2.1 Tryz.t301.2.2.1 a)).2 (gR.2 ⟨rfl,S.gr⟩)
 . exact⟨Xe _,S,by simp [am,al]⟩
theorem taker_ok{b:Hp}(k:b.t.Sized b.n){r:Nat}:Ret zB 163 [.int .u32 (r:Nat)] b fun v f=>Gr b f/\ ∃a c,v=.func (.func 210) #[] #[ptrTo a,ptrTo c]/\b.n<=a/\a≠c/\Row f a [.int .u32 (r:Nat)] 1/\Row f c (jb 16) 1:=by have S:=Si k;refine aa (n:=6) (rs:=[.tmp 2]) rfl Tryz.e163 rfl rfl rfl (lbt rfl) ?_;simp only [BZ,seval];refine ac (bR (by intro x e;cases e)) S ?_;clear S;intro h a S d;simp only [ae]at S;simp only [BZ];refine ah (halves_ok S.ok) ?_;intro h g;replace S:=S.call g;clear g;simp only [BZ];refine ac au S ?_;clear S;intro h c S j;simp only [BZ,seval];refine aw (S.store (i:=0) rfl Tryz.t301.2.2.1 (by intro x e;cases e) (jv 16) (xc 16) (lbt rfl) ono) ?_;clear S;rintro h ⟨S,_⟩;simp only [LC,ae]at S;rw [lay_all (m:=jb 16) (by rw [jv];rfl)]at S;have l:=S.apart;simp only [BZ,ab,seval];exact⟨S.gr,a,c,rfl,d,fun e=>by subst e;simp [keys]at l,S.row m1,S.row m0⟩
theorem taker1_ok{g:Hp}(N:g.t.Sized g.n){a s r:Nat}{l:Bs}(O:r<4294967296)(X:l.length<=1000000)(P:Row g a [.int .u32 (r:Nat)] 1)(Q:Row g s (jb 16) 1)(B:a≠s):
 Ret zB 210 [sv l,ptrTo a,ptrTo s] g fun v R=>v=.int .u32 (kB r l:Nat)/\Mo (· =a) g R:=by
 have S:=St.init1 N (o:=.row [.int .u32 (r:Nat)] 1) P;have J: ∀{h} (f:Mo (· =a) g h) {j:Nat},j<16->h.load s j 1=some [.int .u32 ((da 4 j:Nat):Int)]:=fun f j T=>(f.has (o:=.row _ 1) Q (fun e=>B e.symm):Row _ s _ 1).load1 (halfC_at T);refine aa (n:=33) (rs:=[.tmp 4]) rfl Tryz.e210 rfl rfl rfl (lbt rfl) ?_;simp only [BZ,dK,seval];refine az (fun(k:Nat) u h=>k<=l.length/\St (· =a) g h [(a,.row [.int .u32 (kB r (l.take k):Nat)] 1)] []/\u 0=sv l/\u 1=ptrTo a/\u 2=ptrTo s/\u 7=.int .i64 l.length/\u 8=.int .i64 k) (fun k=>l.length-k) ?_ 0 _ _ ?_
 . clear S;intro k U u h ⟨hk,S,r0,r1,r2,r7,r8⟩;have w:ag .i64 ((k:Int)+1)=((k+1:Nat):Int):=(by rw [wrap64]<;>omega);by_cases hlt:k<l.length
   . have Y:=sK l[k];have V:=cD (k:=.u32) rfl (n:=l[k].toNat) (by simp only [pw];omega);have A:kB r (l.take (k+1))=crcB (kB r (l.take k)) l[k].toNat:=(by rw [Xf hlt,B2];rfl);have C:=yt (l:=l.take k) O;generalize kB r (l.take k)=c at S A C;have D:c ^^^l[k].toNat<4294967296:=Nat.xor_lt_two_pow (n:=32) C (by omega);have K:=fun(t:TypeId) (p q:Operand)=>tU (E:=zB) (t:=t) (p:=p) (q:=q) (k:=.u32) (x:=c) (y:=l[k].toNat) rfl C (by simp only [pw];omega);have m: ∀{z:Nat},z<4294967296->z>>>4<4294967296/\da 4 (z%16)<4294967296/\(z>>>4) ^^^da 4 (z%16)<4294967296:=fun {z} Z=>(by have L:z>>>4<4294967296:=(by rw [Xt];omega);have M:da 4 (z%16)<4294967296:=yp (by omega);exact⟨L,M,Nat.xor_lt_two_pow (n:=32) L M⟩);rw [Cg]at A;generalize c ^^^l[k].toNat=z at D K A;obtain⟨F,G,H⟩:=m D;have I:=fun(t:TypeId) (p q:Operand)=>tU (E:=zB) (t:=t) (p:=p) (q:=q) (k:=.u32) rfl F G;have d:=Nat.mod_lt z (show 16>0 by decide);simp only [BZ,r7,r8,an,hlt,seval];refine av (ax rfl) (q:=0) (ps:=[]) (by kernel_rfl) ?_;simp only [BZ,bV,aA,cj,cls,r0,r1,qr Tryz.t9.1 hlt,V,K,S.ld (b:=a) (o:=0) m0 rfl,seval];refine dN (aq S (i:=0) rfl Tryz.t58.2.2.1 ca (Xb (lbt rfl)) ono) ?_;clear S;rintro h ⟨S,_⟩;simp only [LC]at S;simp only [BZ,seval];refine av (ax rfl) (q:=0) (ps:=[]) (by kernel_rfl) ?_;simp only [BZ,cls,r1,r2,b_shr4 (k:=.u32) (by decide),b_and15 D,nR (n:=16) d,J S.fr d,I,S.ld (b:=a) (o:=0) m0 rfl,seval];refine dN (aq S (i:=0) rfl Tryz.t58.2.2.1 ca (Xb (lbt rfl)) ono) ?_;clear S;rintro h ⟨S,_⟩;simp only [LC]at S;simp only [BZ,seval];generalize(z>>>4) ^^^da 4 (z%16)=W at S A H;obtain⟨F,G,_⟩:=m H;have I:=fun(t:TypeId) (p q:Operand)=>tU (E:=zB) (t:=t) (p:=p) (q:=q) (k:=.u32) rfl F G;have d:=Nat.mod_lt W (show 16>0 by decide);refine av (ax rfl) (q:=0) (ps:=[]) (by kernel_rfl) ?_;simp only [BZ,cls,r1,r2,b_shr4 (k:=.u32) (by decide),b_and15 H,nR (n:=16) d,J S.fr d,I,S.ld (b:=a) (o:=0) m0 rfl,seval];refine dN (aq S (i:=0) rfl Tryz.t58.2.2.1 ca (Xb (lbt rfl)) ono) ?_;clear S;rintro h ⟨S,_⟩;simp only [LC]at S;rw [<-A]at S;simp only [BZ,r8,w,seval];exact U (k+1) _ _ (by omega) ⟨by omega,S,by simp [am,r0,r1,r2,r7]⟩
   . have:k=l.length:=(by omega);subst this;rw [Xr]at S;simp only [BZ,ab,r1,r7,r8,an,hlt,S.ld (b:=a) (o:=0) m0 rfl,seval];exact S.fr
 . exact⟨Xe _,S,by simp [am,cq,cV,al]⟩
theorem wK{a:Hp}(d:a.t.Sized a.n){l:Bs}(i:l.length<=1000000):bG zB 44 [sv l] a (.int .u32 (crc l:Nat)):=by
 have b:bG zB 104 [.int .u32 0,sv l] a (.int .u32 (crc l:Nat)):=by have S:=Si d;have j:unP .xor (.int .u32 0)=some (.int .u32 ((4294967295:Nat):Int)):=rfl;have m:=u_xorU (k:=.u32) rfl (yt (l:=l) (r:=4294967295) (by decide));refine aa (n:=11) (rs:=[.tmp 4]) rfl Tryz.e104 rfl rfl rfl (lbt rfl) ?_;simp only [BZ,Xg,j,seval];refine step_ret (taker_ok (r:=4294967295) S.ok) ?_;intro v h ⟨g,b1,b3,e,n1,hne,R1,R3⟩;replace S:=S.call g;clear g;subst e;simp only [BZ,seval];refine step_ret (taker1_ok S.ok (by decide) i R1 R3 hne) ?_;rintro v h ⟨rfl,f⟩;have o:Gr a h:=(S.fr.trans f (fun c p=>.inr (by subst p;exact n1)):Mo NoM a h).gr;simp only [BZ,ab,m,seval];exact⟨rfl,o⟩
 have S:=Si d;refine aa (n:=5) (rs:=[.tmp 2]) rfl Tryz.e44 rfl rfl rfl (lbt rfl) ?_;simp only [BZ,seval];refine ah (b) ?_;intro h g;replace S:=S.call g;clear g;simp only [BZ,ab,seval];exact S.gr
theorem b_andB{E:Env}{t:TypeId}{p q:Operand}{x:Nat}(h:x<256):aZ E .and t p q (.int .u8 (x:Int)) (.int .u8 1)=some (.int .u8 ((x%2:Nat):Int)):=by have:=s8 (E:=E) (t:=t) (p:=p) (q:=q) (k:=.u8) (x:=x) (y:=1) rfl h (by decide);rw [show x&&& 1=x%2 from Nat.and_one_is_mod x]at this;exact this

def encS(x:Sec):List Value:=[.int .i64 (x.1:Nat),sv x.2]
theorem dE(x:Sec):(encS x).length=2:=rfl
theorem gU{n:Nat}(h:n<18446744073709551616):u64 (n:Int)=n:=by unfold u64;omega
def qa(l:List Sec)(n:Nat):Bs:=eI++(aK 1 n++l.flatMap kE)
theorem encode_ok{t:Hp}(O:t.t.Sized t.n){v:Value}{l:List Sec}(D:ay t 2 encS v l)(hl:l.length<=16)(P: ∀x∈l,x.1<256)(hb:(l.flatMap XW).length<=100000):
 Ret zB 14 [v] t fun r Q=>Gr t Q/\r=.tuple #[sv (cy l),.int .i64 0]:=by
 have S:=Si O;have R: ¬((16:Int)<(l.length:Int)):=by omega
 refine aa (n:=70) (rs:=[.tmp 2,.tmp 3]) rfl Tryz.e14 rfl rfl rfl (lbt rfl) ?_;simp only [BZ,D.lenq,R,seval];refine step_ret (pd S) ?_;rintro v1 h ⟨E,rfl,S⟩;simp only [BZ];refine step_ret (pd S) ?_;rintro v2 h ⟨H,rfl,S⟩;simp only [BZ,seval];refine step_ret (Bu (l:=[]) (m:=eI) S (i:=1) (j:=1) rfl rfl (by decide)) ?_;rintro _ h ⟨q,S⟩;simp only [LC]at S;have T:=cD (k:=.u8) rfl (n:=l.length) (by simp only [pw];omega);simp only [BZ,bV,aA,cj,D.lenq,T,seval];refine ac (bg (by exact Tryz.t22.1) (by exact XV) (by decide) (by rfl)) S ?_;clear S;intro h F S d;simp only [LC,aU,bD,ae,XB,Xk,Xj,XG,seval]at S;obtain⟨S,f,p⟩:=S.bsl (kd:=.u8) (xs:=[(l.length:Int)]);simp only [BZ,seval];refine step_ret (xO S (i:=1) (j:=1) rfl rfl f p (by simp [eI])) ?_;rintro _ h ⟨q,S⟩;simp only [LC,Xi,Xm]at S;rw [gU (by omega),show eI++aK 1 l.length=qa (l.take 0) l.length by simp [qa]]at S;simp only [BZ,D.lenq,seval];refine az (fun(k:Nat) u h=>k<=l.length/\ ∃q z,St NoM t h [(H,.row [z] 1),(E,.row [q] 1)] [(z,1,aQ ((l.take k).flatMap XW)),(q,1,aQ (qa (l.take k) l.length))]/\u 4=ptrTo E/\u 5=ptrTo H/\u 21=v/\u 22=.int .i64 l.length/\u 23=.int .i64 k) (fun k=>l.length-k) ?_ 0 _ _ ?_
 . clear S f p;intro k U u h ⟨hkl,q,z,S,r4,r5,r21,r22,r23⟩;have w:ag .i64 ((k:Int)+1)=((k+1:Nat):Int):=(by rw [wrap64]<;>omega);by_cases hlt:k<l.length
   . obtain⟨c,o,A,B⟩:=(D.gr S.gr).ix (kd:=.i64) dE hlt;have C:=P l[k] (XR hlt);have I:l.take (k+1)=l.take k++[l[k]]:=Xf hlt;have G:((l.take (k+1)).flatMap XW).length<=(l.flatMap XW).length:=by
      conv=>rhs;rw [<-List.take_append_drop (k+1) l,Xn,Xa]
      omega
     rw [I,Xn,Xa]at G;simp only [Xi,Xm,Xq]at G;have lh:(qa (l.take k) l.length).length<=300:=(by have:(l.take k).length<=16:=(by rw [Xh];omega);simp only [qa,Xa,aF,yW,eI,Xv,XI];omega);have J:qa (l.take (k+1)) l.length=qa (l.take k) l.length++kE l[k]:=(by unfold qa;rw [I,Xn];simp);have K:(l.take (k+1)).flatMap XW=(l.take k).flatMap XW++l[k].2:=(by rw [I,Xn];simp);generalize l[k]=x at B C J K G;obtain⟨y,a⟩:=x;simp only []at C J K G;have V: ¬((y:Int)<0):=(by omega);have W: ¬((255:Int)<(y:Int)):=(by omega);have X:=cD (k:=.u8) rfl (n:=y) (by simp only [pw];omega);have Y:=cD (k:=.u64) rfl (n:=a.length) (by simp only [pw];omega);simp only [BZ,r21,r22,r23,an,hlt,A,B,encS,seval];refine ac au S ?_;clear S;intro h s S M;simp only [BZ,seval];refine aw (S.store (i:=0) rfl ?_ ?_ rfl rfl ?_ ono) ?_
     . exact(by exact Tryz.t13.2.1)
     . exact(by intro x e;cases e)
     . exact lbt rfl
     clear S;rintro h ⟨S,Z⟩;clear Z;simp only [LC,ae,lay,Xy,Xz,seval]at S;simp only [BZ,bV,aA,cj,r4,V,W,X,S.ld (b:=s) (o:=0) m0 rfl,S.ld (b:=s) (o:=1) m0 rfl,seval];refine ac (bg (by exact Tryz.t22.1) (by exact XV) (by decide) (by rfl)) S ?_;clear S;intro h F S d;simp only [LC,aU,bD,ae,XB,Xk,Xj,XG,seval]at S;obtain⟨S,f,p⟩:=S.bsl (kd:=.u8) (xs:=[(y:Int)]);simp only [BZ,seval];refine step_ret (xO S (i:=2) (j:=1) rfl rfl f p (by simp;omega)) ?_;clear f p S;rintro _ h ⟨q,S⟩;simp only [LC,Xi,Xm]at S;rw [gU (by omega)]at S;simp only [BZ,bV,aA,cj,r4,dK,Y,S.ld (b:=s) (o:=0) m0 rfl,S.ld (b:=s) (o:=1) m0 rfl,seval];refine ac (bg (by exact Tryz.t178.1) (by exact Tryz.e85E) (by decide) (by rfl)) S ?_;clear S;intro h F S d;simp only [LC,aU,bD,ae,XB,Xk,Xj,XG,seval]at S;obtain⟨S,f,p⟩:=S.bsl (kd:=.u64) (xs:=[(a.length:Int)]);simp only [BZ,seval];refine step_ret (wU64_ok S (i:=2) (j:=1) rfl rfl f p (fun x N=>by simp only [List.mem_singleton]at N;rw [N,gU (by omega)]) (by simp [aF];omega)) ?_;clear f p S;rintro _ h ⟨q,S⟩;simp only [LC,Xi,Xm]at S;rw [gU (by omega)]at S;have cl:=tQ a;simp only [BZ,r4,S.ld (b:=s) (o:=0) m0 rfl,S.ld (b:=s) (o:=1) m0 rfl,seval];refine ah (wK S.ok (l:=a) (by omega)) ?_;intro h g;replace S:=S.call g;clear g;simp only [BZ,seval];refine ac (bg (by exact Tryz.t180.1) (by exact Tryz.e58E) (by decide) (by rfl)) S ?_;clear S;intro h F S d;simp only [LC,aU,bD,ae,XB,Xk,Xj,XG,seval]at S;obtain⟨S,f,p⟩:=S.bsl (kd:=.u32) (xs:=[((crc a:Nat):Int)]);simp only [BZ,seval];refine step_ret (ry S (i:=2) (j:=1) rfl rfl f p (by simp [aF];omega)) ?_;clear f p S;rintro _ h ⟨q,S⟩;simp only [LC,Xi,Xm]at S;rw [gU (by omega),Xs,Xs,show aK 1 y++(aK 8 a.length++aK 4 (crc a))=kE (y,a)from rfl,<-J]at S;simp only [BZ,r5,S.ld (b:=s) (o:=0) m0 rfl,S.ld (b:=s) (o:=1) m0 rfl,seval];refine step_ret (Bu (m:=a) S (i:=1) (j:=0) rfl rfl (by omega)) ?_;clear S;rintro _ h ⟨z,S⟩;simp only [LC]at S;rw [<-K]at S;simp only [BZ,r23,w,seval];exact U (k+1) _ _ (by omega) ⟨by omega,q,z,S.drop1,by simp [am,r4,r5,r21,r22]⟩
   . have:k=l.length:=(by omega);subst this;rw [Xr]at S;have hh:qa l l.length=cu l:=rfl;rw [hh]at S;have cl:=tQ (cu l);have L:=gP l;have g4:=(S.gown _ m1).1;simp only [BZ,r4,r22,r23,an,hlt,seval];refine ah (kV S.ok (S.ld (b:=E) (o:=0) m1 rfl) g4) ?_;intro h g;replace S:=S.call g;clear g;simp only [BZ,seval];refine ah (wK S.ok (l:=cu l) (by omega)) ?_;intro h g;replace S:=S.call g;clear g;simp only [BZ,seval];refine ac (bg (by exact Tryz.t180.1) (by exact Tryz.e58E) (by decide) (by rfl)) S ?_;clear S;intro h F S d;simp only [LC,aU,bD,ae,XB,Xk,Xj,XG,seval]at S;obtain⟨S,f,p⟩:=S.bsl (kd:=.u32) (xs:=[((crc (cu l):Nat):Int)]);simp only [BZ,seval];refine step_ret (ry S (i:=1) (j:=1) rfl rfl f p (by simp;omega)) ?_;clear f p g4 S;rintro _ h ⟨q,S⟩;simp only [LC,Xi,Xm]at S;rw [gU (by omega)]at S;have g4:=(S.gown _ m1).1;simp only [BZ,r4,seval];refine ah (kV S.ok (S.ld (b:=E) (o:=0) m1 rfl) g4) ?_;intro h g;replace S:=S.call g;clear g;have g5:=(S.gown _ m0).1;simp only [BZ,r5,seval];refine ah (kV S.ok (S.ld (b:=H) (o:=0) m0 rfl) g5) ?_;intro h g;replace S:=S.call g;clear g;simp only [BZ,ab,A2 (l:=cu l++aK 4 (crc (cu l))) (m:=l.flatMap XW) (by rw [Xa,aF,L];omega),seval];exact⟨S.gr,by unfold cy;rw [Xs]⟩
 . exact⟨Xe _,_,_,S,by simp [am,al]⟩
end Go.Ab
end
section
namespace Go.Ab
theorem qg{l:Bs}{k:Nat}(h:l.length<=k):bC l<256 ^k:=Nat.lt_of_lt_of_le (jX l) (Xp (by decide) h)
def dJ(s:Bs)(j:Nat):Ent:=(bC ((s.drop (7+13*j)).take 1),bC ((s.drop (8+13*j)).take 8),bC ((s.drop (16+13*j)).take 4))
theorem BW(n:Nat): ∀(s:Bs) (m:Nat),qJ n (s.drop (7+13*m))=(zM n).map fun j=>dJ s (m+j):=by
 induction n with
 |zero=>intro s m;rfl| succ n a=>
   intro s m;rw [qJ,XN,show 7+13*m+13=7+13*(m+1) by omega,a,List.range_succ_eq_map,List.map_cons,List.map_map];congr 1
   . unfold entD dJ;rw [XN,XN,show 7+13*m+1=8+13*m by omega,show 7+13*m+9=16+13*m by omega];rfl
   . refine XU fun j _=>?_;show dJ s (m+1+j)=dJ s (m+(j+1));rw [Nat.add_assoc,Yg 1 j]
def esF(s:Bs):List Ent:=(zM (aJ s)).map (dJ s)
theorem esF_eq(s:Bs):qJ (aJ s) (s.drop 7)=esF s:=by have:=BW (aJ s) s 0;simpa [esF]using this
theorem rz(s:Bs):(esF s).length=aJ s:=by simp [esF]
theorem esF_at{s:Bs}{j:Nat}(h:j<aJ s):(esF s)[j]? =some (dJ s j):=by simp [esF,List.getElem?_map,h]
def eB(s:Bs)(k:Nat):Nat:=(((esF s).take k).map (·.2.1)).sum
theorem wW{s:Bs}{k:Nat}(h:k<aJ s):eB s (k+1)=eB s k+(dJ s k).2.1:=by
 unfold eB;have a:k<(esF s).length:=by rw [rz];exact h
 have e:(esF s)[k]=dJ s k:=by have:=esF_at h;rw [XC a]at this;exact Option.some.inj this
 rw [Xf a,XT,List.sum_append,e];simp
theorem tK(s:Bs):eB s (aJ s)=((esF s).map (·.2.1)).sum:=by unfold eB;rw [XA (by rw [rz];omega)]
theorem Cm(l:List Nat)(k:Nat):(l.take k).sum<=l.sum:=by
 induction l generalizing k with
 |nil=>simp| cons a l b=>
   cases k with
   |zero=>simp|succ k=>have:=b k;simp only [Xl,List.sum_cons];omega
theorem Aq(s:Bs)(k:Nat):eB s k<=eB s (aJ s):=by rw [tK];unfold eB;rw [List.map_take];exact Cm _ _
theorem qx{s:Bs}(h:iw s):s.take 6=eI/\aJ s<=16/\11+13*aJ s<=s.length/\bC ((s.drop (7+13*aJ s)).take 4)=crc (s.take (7+13*aJ s))/\eB s (aJ s)=s.length-(11+13*aJ s):=by obtain⟨a,_,c,d,e,f⟩:=h;rw [esF_eq]at f;exact⟨a,c,d,e,by rw [tK];exact f⟩
def ke(s:Bs)(k:Nat):Nat:=11+13*aJ s+eB s k
theorem offF_le{s:Bs}(h:iw s)(k:Nat):ke s k<=s.length:=by obtain⟨_,_,c,_,e⟩:=qx h;have:=Aq s k;unfold ke;omega
theorem zC{s:Bs}{k:Nat}(a:k<aJ s):ke s (k+1)=ke s k+(dJ s k).2.1:=by unfold ke;rw [wW a];omega
def gY(s:Bs)(k:Nat):Sec:=((dJ s k).1,(s.drop (ke s k)).take (dJ s k).2.1)
def bodF(s:Bs):Option (List Sec):=k9 (esF s) (s.drop (ke s 0))
theorem bodF_go{s:Bs}: ∀(n k:Nat),k+n=aJ s->((∀j,k<=j->j<aJ s->crc (gY s j).2=(dJ s j).2.2)->k9 ((esF s).drop k) (s.drop (ke s k))=some ((List.range' k n).map (gY s)))/\(∀j,k<=j->j<aJ s->crc (gY s j).2≠(dJ s j).2.2->k9 ((esF s).drop k) (s.drop (ke s k))=none):=by
 intro n
 induction n with
 | zero=>
   intro k m;refine⟨fun _=>?_,fun j c b=>by omega⟩;rw [XQ (by rw [rz];omega)];rfl
 | succ n o=>
   intro k m;have hlt:k<aJ s:=(by omega);have d:k<(esF s).length:=(by rw [rz];exact hlt);have e:(esF s)[k]=dJ s k:=(by have:=esF_at hlt;rw [XC d]at this;exact Option.some.inj this);rw [X2 d,e];obtain⟨f,g⟩:=o (k+1) (by omega);rw [zC hlt]at f g;have u: ∀l,k9 (dJ s k::l) (s.drop (ke s k))=if crc (gY s k).2=(dJ s k).2.2 then(k9 l (s.drop (ke s k+(dJ s k).2.1))).map (gY s k:: ·)else none:=fun _=>by rw [<-XN];rfl
   rw [u];refine⟨fun h=>?_,fun j c b i=>?_⟩
   . rw [if_pos (h k (XF _) hlt),f (fun j c b=>h j (by omega) b),List.range'_succ];rfl
   . by_cases a:crc (gY s k).2=(dJ s k).2.2
     . rw [if_pos a,g j (by rcases Nat.lt_or_eq_of_le c with h|rfl;exact h;exact absurd a i) b i];rfl
     . rw [if_neg a]
theorem bodF_ok{s:Bs}(h: ∀j,j<aJ s->crc (gY s j).2=(dJ s j).2.2):bodF s=some ((zM (aJ s)).map (gY s)):=by have:=bodF_go (s:=s) (aJ s) 0 (Xk _);rw [Xd,<-List.range_eq_range']at this;exact this.1 fun j _ a=>h j a
theorem bodF_no{s:Bs}{k:Nat}(a:k<aJ s)(h:crc (gY s k).2≠(dJ s k).2.2):bodF s=none:=by have:=bodF_go (s:=s) (aJ s) 0 (Xk _);rw [Xd]at this;exact this.2 k (Xe _) a h
theorem yP{s:Bs}(h:iw s):kI s=match bodF s with|some l=>.ok l|none=>.error true:=by unfold kI;rw [if_pos h,esF_eq,show bodF s=k9 (esF s) (s.drop (11+13*aJ s)) by unfold bodF ke eB;simp];cases k9 (esF s) (s.drop (11+13*aJ s))<;>rfl
end Go.Ab

end
section
namespace Go.Ab
open Go.Proofs
set_option maxRecDepth 10000
theorem dg{s:Bs}{a n:Nat}(h:a+n<=s.length):bM s a false n=((s.drop a).take n,a+n,false):=by unfold bM;rw [if_neg];rintro(h|h);cases h;omega
theorem jx{s:Bs}{a n:Nat}{bad:Bool}(h:bad=true\/s.length<a+n):bM s a bad n=([],a,true):=by unfold bM;rw [if_pos h]
def tkS(s:Bs)(n:Nat)(p:Nat×Bool):Bs×Nat×Bool:=bM s p.1 p.2 n
def rdE(s:Bs)(p:Nat×Bool):Ent×(Nat×Bool):=((bC (tkS s 1 p).1,bC (tkS s 8 (tkS s 1 p).2).1,bC (tkS s 4 (tkS s 8 (tkS s 1 p).2).2).1),(tkS s 4 (tkS s 8 (tkS s 1 p).2).2).2)
def stE(s:Bs):Nat->Nat×Bool
 |0=>(bM s 6 false 1).2|k+1=>(rdE s (stE s k)).2
def enG(s:Bs)(k:Nat):Ent:=(rdE s (stE s k)).1
theorem enG_lt(s:Bs)(k:Nat):(enG s k).1<256/\(enG s k).2.1<18446744073709551616/\(enG s k).2.2<4294967296:=
 ⟨qg (k:=1) kJ,qg (k:=8) kJ,qg (k:=4) kJ⟩
theorem stE_at{s:Bs}(h:6<=s.length)(k:Nat):(stE s k).1<=s.length:=by
 induction k with
 |zero=>exact nV h|succ k a=>exact nV (nV (nV a))
theorem many_tk(s:Bs):bC (bM s 6 false 1).1=aJ s:=by
 by_cases h:6+1<=s.length
 . rw [dg h];rfl
 . rw [jx (.inr (by omega))];unfold aJ;rw [XQ (by omega)];rfl
theorem xf{s:Bs}: ∀k,7+13*k<=s.length->stE s k=(7+13*k,false):=by
 intro k
 induction k with
 |zero=>intro h;unfold stE;rw [dg (by omega)]| succ k a=>intro h;rw [stE,a (by omega)];simp only [rdE,tkS];rw [dg (by omega),dg (by simp only [];omega),dg (by simp only [];omega)];simp only [];rw [show 7+13*k+1+8+4=7+13*(k+1) by omega]
theorem enG_eq{s:Bs}{k:Nat}(h:7+13*(k+1)<=s.length):enG s k=dJ s k:=by unfold enG;rw [xf k (by omega)];simp only [rdE,tkS];rw [dg (by omega),dg (by simp only [];omega),dg (by simp only [];omega)];simp only [dJ];rw [show 7+13*k+1=8+13*k by omega,show 8+13*k+8=16+13*k by omega]
theorem tk_bad{s:Bs}{a n:Nat}:(bM s a true n).2.2=true:=by rw [jx (.inl rfl)]
theorem stE_bad{s:Bs}: ∀k,s.length<7+13*k->(stE s k).2=true:=by
 intro k
 induction k with
 |zero=>intro h;unfold stE;rw [jx (.inr (by omega))]| succ k b=>
   intro h;have a: ∀n (p:Nat×Bool),p.2=true->(tkS s n p).2.2=true:=fun n p c=>(by unfold tkS;rw [c];exact tk_bad);by_cases d:s.length<7+13*k
   . exact a _ _ (a _ _ (a _ _ (b d)))
   . rw [stE,xf k (by omega)];show(tkS s 4 (tkS s 8 (tkS s 1 (7+13*k,false)).2).2).2.2=true;by_cases e:s.length<7+13*k+1
     . exact a _ _ (a _ _ (by unfold tkS;rw [jx (.inr e)]))
     . rw [show tkS s 1 (7+13*k,false)=_ from dg (by omega)];by_cases f:s.length<7+13*k+1+8
       . exact a _ _ (by unfold tkS;rw [jx (.inr f)])
       . rw [show tkS s 8 (7+13*k+1,false)=_ from dg (by omega)];unfold tkS;rw [jx (.inr (by simp only [];omega))]
theorem finE_bad{s:Bs}{n:Nat}(h:s.length<11+13*n):(bM s (stE s n).1 (stE s n).2 4).2.2=true:=by
 by_cases a:s.length<7+13*n
 . rw [stE_bad n a];exact tk_bad
 . rw [xf n (by omega),jx (.inr (by simp only [];omega))]
theorem nQ{a:Hp}(b:a.t.Sized a.n){c:Nat}:bG zB 122 [.bool true,.int .i64 (c:Int)] a (.tuple #[]):=by have S:=Si b;refine aa (n:=8) (rs:=[]) rfl Tryz.e122 rfl rfl rfl (lbt rfl) ?_;simp only [BZ,ab,seval];exact S.gr
theorem lS{a:Hp}(b:a.t.Sized a.n){c:Nat}:dU zB 122 [.bool false,.int .i64 (c:Int)] none a fun o d e=>o=.pan (.iface 29 (.int .i64 (c:Int)))/\d=none/\Gr a e:=by have S:=Si b;refine enter (n:=8) (rs:=[]) rfl Tryz.e122 rfl rfl rfl (lbt rfl) ?_;simp only [BZ,seval];exact dB (cP ⟨rfl,rfl,S.gr⟩)
theorem rErr_ok{b:Hp}(d:b.t.Sized b.n){c:Nat}{s:Bs}{a:Nat}(R:Row b c (rdC s a (.pointer none)) 1):bG zB 123 [ptrTo c] b .nilIface:=by have S:=Si d;refine aa (n:=20) (rs:=[.tmp 2]) rfl Tryz.e123 rfl rfl rfl (lbt rfl) ?_;simp only [BZ,ab,R.load1 (o:=2) rfl,seval];exact S.gr
theorem rErrB_ok{b:Hp}(j:b.t.Sized b.n){c d:Nat}{s:Bs}{a:Nat}{l:List Value}(R:Row b c (rdC s a (ptrTo d)) 1)(F:Row b d l 1)(k:Int4 l):Ret zB 123 [ptrTo c] b fun r m=>Gr b m/\ ∃t v,r=.iface t v:=by
 have S:=Si j;obtain⟨x,y,z,w,rfl⟩:=k;have p:b.load c 2 1=some [ptrTo d]:=R.load1 (o:=2) rfl;have f:=F.load (o:=0) (n:=4) (XF 4);simp only [Xd,Xl,Xo]at f;refine aa (n:=20) (rs:=[.tmp 2]) rfl Tryz.e123 rfl rfl rfl (lbt rfl) ?_;simp only [BZ,p,f,seval];refine ac au S ?_;clear S;intro h u S g;simp only [BZ,seval];refine aw (S.store (i:=0) rfl ?_ ?_ rfl rfl ?_ ono) ?_
 . exact(by exact Tryz.t126.2.1)
 . exact(by intro x e;cases e)
 . exact lbt rfl
 clear S;rintro h ⟨S,q⟩;clear q;simp only [LC,ae,lay,Xy,Xz,seval]at S;simp only [BZ,ab,seval];exact⟨S.gr,_,_,rfl⟩
def FlF(f:Value)(bad:Bool)(F:List (Nat×Ob)):Prop:=if bad=true then∃b l,f=ptrTo b/\Int4 l/\F=[(b,.row l 1)]else f=.pointer none/\F=[]
theorem FlF.rd{f:Value}{bad:Bool}{F:List (Nat×Ob)}(h:FlF f bad F):RdF f bad:=by
 cases bad with
 |true=>obtain⟨b,l,rfl,_⟩:=h;exact⟨_,rfl⟩
 |false=>exact h.1
theorem St.perm{M:Nat->Prop}{a h:Hp}{L L':List (Nat×Ob)}{G:List GL}(S:St M a h L G)(p:L'.Perm L):St M a h L' G:=
 ⟨S.fr,fun x b=>S.own x (p.mem_iff.1 b),S.gown,(((p.map Prod.fst).append_right (G.filterMap fu)).nodup_iff).2 S.apart⟩
theorem St.adv{M:Nat->Prop}{g h d:Hp}{A F L:List (Nat×Ob)}{G:List GL}{c:Nat}{o o':Ob}{f k:Value}{bad a:Bool}(S:St M g h (A++(c,o)::(F++L)) G)(p:FlF f bad F)(q:Mo (· =c) h d)(r:Has d c o')(O:RdO h d f bad k a): ∃F',FlF k a F'/\St M g d (A++(c,o')::(F'++L)) G:=by
 have e:(A++(c,o)::(F++L))[A.length]? =some (c,o):=by simp
 have i:=S.call1 e q r;rw [List.set_append_right _ _ (XF _),Yh,Xw]at i;obtain⟨s,⟨rfl,rfl⟩|⟨b,l,rfl,t,u,R⟩⟩:=O
 . exact⟨F,p,i⟩
 . have j:a=true:=by
    cases a with
    |true=>rfl|false=>cases s
   subst j;have m: ∀o,(A++(c,o)::L).Sublist (A++(c,o)::(F++L)):=fun o=>(List.Sublist.refl A).append ((X3 F L).cons_cons _);have v:St M g d (A++(c,o')::L) G:=i.sub (m o') (List.Sublist.refl _);have w:=v.push (b:=b) (o:=.row l 1) (.inl (XD S.fr.n t)) R (fun n=>by
    have x:keys (A++(c,o')::L) G=keys (A++(c,o)::L) G:=(by simp [keys]);rw [x]at n;have:=(S.sub (m o) (List.Sublist.refl _)).key_lt n;omega)
   exact⟨[(b,.row l 1)],⟨b,l,rfl,u,rfl⟩,w.perm ((List.Perm.append_left A (List.Perm.swap _ _ _)).trans List.perm_middle)⟩
theorem CM{M:Nat->Prop}{c hq:Hp}{L:List (Nat×Ob)}{G:List GL}(S:St M c hq L G){b:Nat}:
 Ret zB 119 [ptrTo b] hq fun r f=> ∃a,r=.func (.func 170) #[] #[ptrTo a]/\St M c f ((a,.row [ptrTo b] 1)::L) G:=by
 have g:=S.ok;refine aa (n:=4) (rs:=[.tmp 2]) rfl Tryz.e119 rfl rfl rfl (lbt rfl) ?_;simp only [BZ,seval];refine ac (bR (by intro x e;cases e)) S ?_;clear S;intro h a S d;simp only [ae]at S;simp only [BZ,ab,seval];exact⟨_,rfl,S⟩
def iE(x:Ent):List Value:=[.int .i64 (x.1:Nat),.int .u64 (x.2.1:Nat),.int .u32 (x.2.2:Nat)]
theorem kA(x:Ent):(iE x).length=3:=rfl
theorem q6(l:Bs)(t:TypeId)(p q:Operand):aZ zB .eql t p q (sv l) (.string ⟨#[77,73,76,69,49,1]⟩)=some (.bool (decide (l=eI))):=b_eql_sv (l:=l) (m:=eI)
theorem fP{M:Nat->Prop}{g h d:Hp}{L:List (Nat×Ob)}{G:List GL}(S:St M g h L G){c b i j:Nat}{o o':Ob}(e:L[i]? =some (c,o))(k:L[j]? =some (b,o'))(a:i≠j)(f:Mo (· =b) h d):leaves h d c=true:=by refine S.leaves (Xc e) f ?_;rintro rfl;have l:=jV (G:=G) e;have m:=jV (G:=G) k;obtain⟨q,n⟩:=List.getElem?_eq_some_iff.1 l;obtain⟨r,p⟩:=List.getElem?_eq_some_iff.1 m;exact a ((List.getElem_inj S.apart).1 (n.trans p.symm))
def goodH(s:Bs):Prop:=s.take 6=eI/\aJ s<=16
theorem Co{M:Nat->Prop}{v hq:Hp}{L:List (Nat×Ob)}{G:List GL}{s:Bs}{b l m E y H:Nat}{X:gC}(S:St M v hq ((y,.loop X)::(H,.dfr)::(m,.row [ptrTo b] 1)::(E,.row [.slice none 0 0] 1)::(b,.row [ptrTo l,sv s] 1)::(l,.row (rdC s 0 (.pointer none)) 1)::L) ((.slice none 0 0,3,[])::G))(I:s.length<=1000000)
 (HR: ∀(k:Nat) (r:Value) (f:Value) (F:List (Nat×Ob)) (h:Hp),k<aJ s->aJ s<=16->FlF f (stE s (k+1)).2 F->St M v h ((y,.loop X)::(H,.dfr)::(m,.row [ptrTo b] 1)::(E,.row [r] 1)::(b,.row [ptrTo l,sv s] 1)::(l,.row (rdC s (stE s (k+1)).1 f) 1)::(F++L)) ((r,3,(zM k).flatMap fun j=>iE (enG s j))::G)->kL zB y [.agg ⟨iE (enG s k)⟩] h fun o R=>o=.ret (.bool true)/\ ∃z,St M v R ((y,.loop X)::(H,.dfr)::(m,.row [ptrTo b] 1)::(E,.row [z] 1)::(b,.row [ptrTo l,sv s] 1)::(l,.row (rdC s (stE s (k+1)).1 f) 1)::(F++L)) ((z,3,(zM (k+1)).flatMap fun j=>iE (enG s j))::G)):
 dU zB 170 [.func (.yield y) #[] #[],ptrTo m] none hq fun o rc R=>rc=none/\
  ((goodH s/\ ∃u r f F,FlF f (stE s (aJ s)).2 F/\o=.ret u/\St M v R ((y,.loop X)::(H,.dfr)::(m,.row [ptrTo b] 1)::(E,.row [r] 1)::(b,.row [ptrTo l,sv s] 1)::(l,.row (rdC s (stE s (aJ s)).1 f) 1)::(F++L)) ((r,3,(zM (aJ s)).flatMap fun j=>iE (enG s j))::G))\/
   (¬goodH s/\o=.pan (.iface 29 (.int .i64 23))/\ ∃a f,St M v R ((y,.loop X)::(H,.dfr)::(m,.row [ptrTo b] 1)::(E,.row [.slice none 0 0] 1)::(b,.row [ptrTo l,sv s] 1)::(l,.row (rdC s a f) 1)::L) ((.slice none 0 0,3,[])::G))):=by
 have ok:=S.ok;have t: ∀{h:Hp} {A:List (Nat×Ob)} {x:Nat×Ob} {F:List (Nat×Ob)} {G:List GL},St M v h (A++x::(F++L)) G->St M v h (A++x::L) G:=fun S=>S.sub ((List.Sublist.refl _).append ((X3 _ L).cons_cons _)) (List.Sublist.refl _);refine enter (n:=44) (rs:=[]) rfl Tryz.e170 rfl rfl rfl (lbt rfl) ?_;simp only [BZ,S.ld (b:=m) (o:=0) m2 rfl,S.ld (b:=b) (o:=0) m4 rfl,seval];refine step_ret (By (n:=6) (bad:=false) (St.init1 S.ok (S.own _ m5).2) (i:=0) rfl rfl (Xe _) I (by decide)) ?_;rintro _ h ⟨rfl,J,d,T⟩;simp only [Xw]at T;obtain⟨F,p,S⟩:=St.adv (A:=[_,_,_,_,_]) (F:=[]) S (show FlF (.pointer none) false []from⟨rfl,rfl⟩) T.fr (T.own _ m0).2 d;clear T d;by_cases K:s.take 6=eI
 . have l6:6<=s.length:=(by have:=congrArg Yk K;rw [Xh]at this;have:(eI).length=6:=rfl;omega);rw [dg (by omega)]at p S⊢;obtain⟨rfl,rfl⟩:J=.pointer none/\F=[]:=p;simp only [LC,Xd,K,Xk]at S⊢;have Y:decide (eI=eI)=true:=decide_eq_true rfl;simp only [BZ,q6,seval];refine ah (nQ S.ok (c:=23)) ?_;intro h g;replace S:=S.call g;clear g;simp only [BZ,S.ld (b:=m) (o:=0) m2 rfl,S.ld (b:=b) (o:=0) m4 rfl,seval];refine step_ret (wD (bad:=false) (St.init1 S.ok (S.own _ m5).2) (i:=0) rfl rfl (by omega) I) ?_;rintro _ h ⟨rfl,J,d,T⟩;simp only [Xw]at T;obtain⟨F,p,S⟩:=St.adv (A:=[_,_,_,_,_]) (F:=[]) S (show FlF (.pointer none) false []from⟨rfl,rfl⟩) T.fr (T.own _ m0).2 d;clear T d;rw [many_tk];replace p:FlF J (stE s 0).2 F:=p;replace S:St M v h ([_,_,_,_,_]++(l,.row (rdC s (stE s 0).1 J) 1)::(F++L)) _:=S;simp only [LC]at S;have mb:aJ s<256:=qg (k:=1) (by simp;omega);have Z:ag .i64 (aJ s:Int)=aJ s:=(by rw [wrap64]<;>omega);by_cases p2:aJ s<=16
   . generalize hn:aJ s=n at*
     have B:(n:Int)<=16:=(by omega);simp only [BZ,bV,aA,cj,Z,B,seval];refine ah (nQ S.ok (c:=23)) ?_;intro h g;replace S:=S.call g;clear g;simp only [BZ,seval];refine az (fun(k:Nat) N h=>k<=n/\ ∃r f F,FlF f (stE s k).2 F/\St M v h ((y,.loop X)::(H,.dfr)::(m,.row [ptrTo b] 1)::(E,.row [r] 1)::(b,.row [ptrTo l,sv s] 1)::(l,.row (rdC s (stE s k).1 f) 1)::(F++L)) ((r,3,(zM k).flatMap fun j=>iE (enG s j))::G)/\N 0=.func (.yield y) #[] #[]/\N 1=ptrTo m/\N 20=.int .i64 n/\N 21=.int .i64 k) (fun k=>n-k) ?_ 0 _ _ ?_
     . clear S p;intro k ih N h ⟨hk,r,f,F,p,S,r0,r1,r20,r21⟩;have w:ag .i64 ((k:Int)+1)=((k+1:Nat):Int):=(by rw [wrap64]<;>omega);by_cases hlt:k<n
       . obtain⟨q1,q2,q3⟩:=enG_lt s k;have O:=stE_at l6 k;simp only [BZ,r20,r21,an,hlt,seval];refine sV (by kernel_rfl) (n:=18) (by kernel_rfl) (ax rfl) (q:=0) (ps:=[(11,15),(5,15),(11,12),(5,12),(5,10),(5,7)]) (by kernel_rfl) ?_;simp only [Xv,XI,Xk,Xl,Xo,XM,Xd,seval];simp only [BZ,cls,r0,r1,S.ld (b:=m) (o:=0) m2 rfl,S.ld (b:=b) (o:=0) m4 rfl,seval];refine cg (wD (St.init1 S.ok (S.own _ m5).2) (i:=0) rfl p.rd O I) ?_;rintro _ h ⟨rfl,f1,d,T⟩;simp only [Xw]at T;have v1:=fP S (i:=2) (j:=5) rfl rfl (by decide) T.fr;have u1:=fP S (i:=4) (j:=5) rfl rfl (by decide) T.fr;obtain⟨F1,C,S⟩:=St.adv (A:=[_,_,_,_,_]) S p T.fr (T.own _ m0).2 d;clear T d p;simp only [LC]at S;have P:=nV (n:=1) (bad:=(stE s k).2) O;have wk:ag .i64 ((bC (bM s (stE s k).1 (stE s k).2 1).1:Nat):Int)=((enG s k).1:Nat):=wrap64 (by show _<=((enG s k).1:Int);omega) (by show((enG s k).1:Int)<_;omega);simp only [BZ,bV,aA,cj,cls,r1,wk,S.ld (b:=m) (o:=0) m2 rfl,S.ld (b:=b) (o:=0) m4 rfl,seval];refine cg (rU64_ok (St.init1 S.ok (S.own _ m5).2) (i:=0) rfl C.rd P I) ?_;rintro _ h ⟨rfl,f2,d,T⟩;simp only [Xw]at T;have v2:=fP S (i:=2) (j:=5) rfl rfl (by decide) T.fr;have u2:=fP S (i:=4) (j:=5) rfl rfl (by decide) T.fr;obtain⟨F2,D,S⟩:=St.adv (A:=[_,_,_,_,_]) S C T.fr (T.own _ m0).2 d;clear T d C;simp only [LC]at S;have U:=nV (n:=8) (bad:=(bM s (stE s k).1 (stE s k).2 1).2.2) P;simp only [BZ,cls,r1,S.ld (b:=m) (o:=0) m2 rfl,S.ld (b:=b) (o:=0) m4 rfl,seval];refine cg (xX (St.init1 S.ok (S.own _ m5).2) (i:=0) rfl D.rd U I) ?_;rintro _ h ⟨rfl,f3,d,T⟩;simp only [Xw]at T;have v3:=fP S (i:=2) (j:=5) rfl rfl (by decide) T.fr;have u3:=fP S (i:=4) (j:=5) rfl rfl (by decide) T.fr;obtain⟨F3,Q,S⟩:=St.adv (A:=[_,_,_,_,_]) S D T.fr (T.own _ m0).2 d;clear T d D;simp only [LC]at S;simp only [BZ,cls,seval];refine⟨by simp only [aY,bj,aR,bo,aW,ne_eq,not_false_eq_true,bz,bK,aX,aV,bZ,cw,aS,XK,r1,al,aE v1,aE u1,aE v2,aE u2,aT v1,aT u1,aT v2,aT u2,seval],?_⟩;refine sq (HR k r f3 F3 _ hlt (by omega) Q S) ?_;rintro _ h ⟨rfl,z,S⟩;simp only [BZ,r21,w,seval];exact ih (k+1) _ _ (by omega) ⟨by omega,z,f3,F3,Q,S,by simp [am,r0,r1,r20]⟩
       . have V:k=n:=(by omega);subst V;simp only [BZ,r20,r21,an,hlt,seval];exact dl (cP ⟨rfl,_,rfl,rfl,.inl ⟨⟨K,by omega⟩,_,r,f,F,p,rfl,S⟩⟩)
     . exact⟨Xe _,_,J,F,p,S,by simp [am,dy,al]⟩
   . have B: ¬(aJ s:Int)<=16:=(by omega);simp only [BZ,bV,aA,cj,Z,B,seval];refine fU (lS S.ok (c:=23)) ?_;rintro _ _ h ⟨rfl,rfl,g⟩;replace S:=S.call g;simp only [BZ,Xg];exact dB (cP ⟨rfl,.inr ⟨fun h=>p2 h.2,rfl,_,_,t (A:=[_,_,_,_,_]) S⟩⟩)
 . have W: ¬(bM s 0 false 6).1=eI:=fun e=>by
    by_cases hl:0+6<=s.length
    . rw [dg hl]at e;exact K e
    . rw [jx (.inr (by omega))]at e;cases e
   have Y:decide ((bM s 0 false 6).1=eI)=false:=decide_eq_false W;simp only [BZ,q6,Y,seval];refine fU (lS S.ok (c:=23)) ?_;rintro _ _ h ⟨rfl,rfl,g⟩;replace S:=S.call g;simp only [BZ,Xg];exact dB (cP ⟨rfl,.inr ⟨fun h=>K h.1,rfl,_,_,t (A:=[_,_,_,_,_]) S⟩⟩)
theorem encEs(s:Bs)(k:Nat):((zM k).flatMap fun j=>iE (dJ s j))=((zM k).map (dJ s)).flatMap iE:=by rw [List.flatMap_map]
theorem encGs(s:Bs)(k:Nat):((zM k).flatMap fun j=>iE (enG s j))=((zM k).map (enG s)).flatMap iE:=by rw [List.flatMap_map]
theorem encG{s:Bs}{k:Nat}(h:7+13*k<=s.length):((zM k).flatMap fun j=>iE (enG s j))=(zM k).flatMap fun j=>iE (dJ s j):=by rw [encGs,encEs,XU fun j a=>enG_eq (by have:=List.mem_range.1 a;omega)]
def DecQ(M:Nat->Prop)(d:Hp)(L:List (Nat×Ob))(G:List GL)(s:Bs)(b c:Nat)(o:Out)(g:Hp):Prop:=
 ∃ a f,match kI s with
     | .ok l=> ∃v,o=.ret v/\St M d g ((b,.row [ptrTo c,sv s] 1)::(c,.row (rdC s a f) 1)::L) ((v,2,l.flatMap encS)::G)| .error e=>o=.pan (.iface 29 (.int .i64 (if e=true then 24 else 23)))/\St M d g ((b,.row [ptrTo c,sv s] 1)::(c,.row (rdC s a f) 1)::L) G
theorem decode_ok {M:Nat->Prop} {W hq:Hp} {L:List (Nat×Ob)} {G:List GL} {s:Bs} {b H:Nat} (S:St M W hq ((b,.row [ptrTo H,sv s] 1)::(H,.row (rdC s 0 (.pointer none)) 1)::L) G) (hs:s.length<=1000000):
 dU zB 60 [ptrTo b] none hq fun o rc z=>rc=none/\DecQ M W L G s b H o z:=by
 have ok:=S.ok;refine enter (n:=106) (rs:=[.tmp 2]) rfl Tryz.e60 rfl rfl rfl (lbt rfl) ?_;simp only [BZ];refine ac au S ?_;clear S;intro h b3 S a6;simp only [BZ,seval];refine step_ret (CM S) ?_;rintro _ h ⟨bx,rfl,S⟩;simp only [BZ];refine js S (g:=170) (a:=#[]) (b:=#[ptrTo bx]) (by simp [bZ,am,al]) rfl rfl ?_;clear S;intro h K lb S _ _ _;obtain⟨X,hX,S⟩: ∃X:gC,X=_/\St M W h ((lb,.loop X)::_) G:=⟨_,rfl,S⟩;refine eQ (Co (S.nilG (k:=3)) hs ?_) ?_
 . clear S;intro k I f F h hk a7 hF S;subst hX;have eg:((zM (k+1)).flatMap fun j=>iE (enG s j))=((zM k).flatMap fun j=>iE (enG s j))++iE (enG s k):=(by rw [List.range_succ,Xn];simp);rw [eg];refine ju (S.get m0) (by rw [Tryz.e60];rfl) rfl ?_;simp only [BZ];refine ac au S ?_;clear S;intro h b4 S a8;simp only [BZ,iE,seval];refine aw (S.store (i:=0) rfl ?_ ?_ rfl rfl ?_ ono) ?_
   . exact(by exact Tryz.t193.2.1)
   . exact(by intro x e;cases e)
   . exact lbt rfl
   clear S;rintro h ⟨S,N⟩;clear N;simp only [LC,ae,lay,Xy,Xz,seval]at S;simp only [BZ];refine iT S (i:=1) rfl rfl rfl rfl rfl ?_;clear S;intro h S;have U:Fl I:=(S.gown _ m0).1.fl;simp only [BZ,Xl,Xo,Xd,S.ld (b:=b3) (o:=0) m4 rfl,S.lds (b:=b4) (o:=0) (n:=3) m0 (lbt rfl),seval];refine ac (bg (by exact Tryz.t194.1) (by exact Tryz.e199E) (by decide) (by rfl)) S ?_;clear S;intro h bs S af;simp only [LC,aU,bD,ae,XB,Xk,Xj,XG,seval]at S;simp only [BZ,seval];have B:aC h 3 (.slice (some ⟨bs,0,none⟩) 1 1)=some (1,iE (enG s k)):=(by simp only [aC];rw [S.lds (b:=bs) (o:=0) (n:=1*3) m0 (lbt rfl)];rfl);replace S:=S.drop1;refine dX (S.grow (j:=0) (m:=1) (new:=iE (enG s k)) rfl Tryz.t194.1 Tryz.e199E (by decide) Tryz.t194.2.2.2.2.2 B rfl (by decide) rfl (by rw [encGs,aI kA,List.length_map,XX,kA];omega)) ?_;clear S B U;rintro h ai S;simp only [LC]at S;have U:Fl ai:=(S.gown _ m0).1.fl;simp only [BZ,seval];refine aw (aq S (i:=4) rfl ?_ ?_ ?_ ono) ?_
   . exact(by simp only [X5])
   . exact(by assumption)
   . exact Xb (lbt rfl)
   clear S;rintro h ⟨S,N⟩;clear N;simp only [LC,ae,lay,Xy,Xz,seval]at S;simp only [BZ];refine fG S (i:=1) rfl ?_;clear S;intro h S;exact⟨rfl,ai,S.drop1⟩
 . clear S;have d: ∀{z:Hp} {a:Nat} {f:Value} {L':List (Nat×Ob)} {G':List GL},¬iw s->St M W z L' G'->((b,.row [ptrTo H,sv s] 1)::(H,.row (rdC s a f) 1)::L).Sublist L'->G.Sublist G'->DecQ M W L G s b H (.pan (.iface 29 (.int .i64 23))) z:=fun {z a f L' G'} hh S s1 s2=>(by have e:kI s=.error false:=(by unfold kI;rw [if_neg hh]);unfold DecQ;simp only [e];exact⟨a,f,rfl,S.sub s1 s2⟩);rintro o rc h ⟨rfl,C⟩;subst hX;rcases C with⟨⟨p1,p2⟩,u,I,f,F,hF,rfl,S⟩|⟨np,rfl,a,f,S⟩;rotate_left
   . show Run _ _ _ _ _ _ _ _;simp only [BZ];replace S:=S.drop1;have O: ¬iw s:=fun h=>np ⟨h.1,h.2.2.1⟩;exact dB (gu [K] h S fun z S=>⟨rfl,d O S ((zO _ _).trans (zO _ _)) (zO _ _)⟩)
   refine⟨_,S.get m0,Nat.zero_ne_one,?_⟩;replace S:=S.dead;show Run _ _ _ _ _ _ _ _;simp only [BZ,S.ld (b:=b) (o:=0) m3 rfl,seval];refine ah (rAt_ok S.ok (S.row m4)) ?_;intro h g;replace S:=S.call g;clear g;simp only [BZ,S.ld (b:=b) (o:=0) m3 rfl,seval];have l6:6<=s.length:=(by have:=congrArg Yk p1;rw [Xh]at this;have:(eI).length=6:=rfl;omega);have a2:=stE_at l6 (aJ s);refine step_ret (xX (St.init1 S.ok (S.own _ m4).2) (i:=0) rfl hF.rd a2 hs) ?_;rintro _ h ⟨rfl,f',D,T⟩;simp only [Xw]at T;obtain⟨F',P,S⟩:=St.adv (A:=[_,_,_,_]) S hF T.fr (T.own _ m0).2 D;clear T D hF;by_cases p3:11+13*aJ s<=s.length;rotate_left
   . have O: ¬iw s:=fun h=>p3 h.2.2.2.1;rw [finE_bad (by omega)]at P;obtain⟨bf,lf,rfl,a3,rfl⟩:=P;simp only [LC]at S;simp only [BZ,S.ld (b:=b) (o:=0) m3 rfl,seval];refine step_ret (rErrB_ok S.ok (S.row m4) (S.row m5) a3) ?_;rintro _ h ⟨g,t,v,rfl⟩;replace S:=S.call g;simp only [BZ,seval];refine fU (lS S.ok (c:=23)) ?_;rintro _ _ h ⟨rfl,rfl,g⟩;replace S:=S.call g;simp only [BZ,Xg];exact dB (gu [K] h S fun z S=>⟨rfl,d O S ((((zO _ _).cons_cons _).cons_cons _).trans ((zO _ _).trans (zO _ _))) (zO _ _)⟩)
   rw [xf (aJ s) (by omega),dg (by simp only [];omega)]at P S⊢;obtain⟨rfl,rfl⟩:f'=.pointer none/\F'=[]:=P;simp only [LC]at S⊢;rw [encG (by omega)]at S;simp only [BZ,S.ld (b:=b) (o:=0) m3 rfl,seval];refine ah (rErr_ok S.ok (S.row m4)) ?_;intro h g;replace S:=S.call g;clear g;have sl:=rj (l:=s) (k:=.i64) (b:=7+13*aJ s) Tryz.t9.1 (by omega);simp only [BZ,XE,XH,sl,S.ld (b:=b) (o:=0) m3 rfl,S.ld (b:=b) (o:=1) m3 rfl,seval];refine ah (wK S.ok (l:=s.take (7+13*aJ s)) (by rw [Xh];omega)) ?_;intro h g;replace S:=S.call g;clear g;by_cases p4:bC ((s.drop (7+13*aJ s)).take 4)=crc (s.take (7+13*aJ s));rotate_left
   . have O: ¬iw s:=fun h=>p4 h.2.2.2.2.1;have q4:(((bC ((s.drop (7+13*aJ s)).take 4):Nat):Int)=((crc (s.take (7+13*aJ s)):Nat):Int))=False:=eq_false (by omega);simp only [BZ,q4,seval];refine fU (lS S.ok (c:=23)) ?_;rintro _ _ h ⟨rfl,rfl,g⟩;replace S:=S.call g;simp only [BZ,Xg];exact dB (gu [K] h S fun z S=>⟨rfl,d O S ((zO _ _).trans (zO _ _)) (zO _ _)⟩)
   have q4:(((bC ((s.drop (7+13*aJ s)).take 4):Nat):Int)=((crc (s.take (7+13*aJ s)):Nat):Int))=True:=eq_true (by omega);simp only [BZ,q4,seval];refine ah (nQ S.ok (c:=23)) ?_;intro h g;replace S:=S.call g;clear g;rw [show 7+13*aJ s+4=11+13*aJ s by omega]at S;simp only [BZ,S.ld (b:=b) (o:=0) m3 rfl,seval];refine ah (rLeft_ok S.ok (S.row m4) (by omega) hs) ?_;intro h g;replace S:=S.call g;clear g;obtain⟨R,hR⟩: ∃R,R=s.length-(11+13*aJ s):=⟨_,rfl⟩;rw [<-hR];have wl:=cD (k:=.u64) rfl (n:=R) (by simp only [pw];omega);have U:Fl I:=(S.gown _ m0).1.fl;have J:=(S.gown _ m0).1.sl (xs:=esF s) (encEs s _) kA (by decide);have Q:(esF s).length=aJ s:=rz s;have ak: ∀k (hk:k<aJ s),(esF s)[k]'(by omega)=dJ s k:=fun k hk=>(by have:=esF_at hk;rw [XC (by omega)]at this;exact Option.some.inj this);simp only [BZ,bV,aA,cj,wl,J.lenq,Q,S.ld (b:=b3) (o:=0) m2 rfl,seval];refine az (fun(k:Nat) p h=>k<=aJ s/\St M W h ((K,.dfr)::(bx,.row [ptrTo b] 1)::(b3,.row [I] 1)::(b,.row [ptrTo H,sv s] 1)::(H,.row (rdC s (11+13*aJ s) (.pointer none)) 1)::L) ((I,3,(zM (aJ s)).flatMap fun j=>iE (dJ s j))::G)/\p 0=ptrTo b/\p 2=.slice none 0 0/\p 3=ptrTo b3/\eB s k<=R/\p 7=.int .u64 ((R-eB s k:Nat):Int)/\p 53=I/\p 54=.int .i64 (aJ s:Nat)/\p 55=.int .i64 (k:Nat)) (fun k=>aJ s-k) ?_ 0 _ _ ⟨Xe _,S,by simp [am,dy,al],by simp [am],by simp [am,al],by simp [eB],by simp [am,eB]⟩;clear S J sl;intro k ih p h ⟨hk,S,r0,r2,r3,hle,r7,r53,r54,r55⟩;have J:=(S.gown _ m0).1.sl (xs:=esF s) (encEs s _) kA (by decide);have w:ag .i64 ((k:Int)+1)=((k+1:Nat):Int):=(by rw [wrap64]<;>omega);by_cases hlt:k<aJ s
   . obtain⟨c,o,r,y⟩:=J.ix (kd:=.i64) kA (by rw [Q];exact hlt);rw [ak k hlt]at y;have l1:=wW hlt;by_cases hL:eB s (k+1)<=R;rotate_left
     . have O: ¬iw s:=fun h=>hL (by have:=Aq s (k+1);have:=(qx h).2.2.2.2;omega);have le:(((dJ s k).2.1:Int)<=((R-eB s k:Nat):Int))=False:=eq_false (by omega);simp only [BZ,r53,r54,r55,an,hlt,r,y,seval];refine ac au S ?_;clear S;intro h b9 S aL;simp only [BZ,iE,seval];refine aw (S.store (i:=0) rfl ?_ ?_ rfl rfl ?_ ono) ?_
       . exact(by exact Tryz.t193.2.1)
       . exact(by intro x e;cases e)
       . exact lbt rfl
       clear S;rintro h ⟨S,N⟩;clear N;simp only [LC,ae,lay,Xy,Xz,seval]at S;simp only [BZ,r7,le,S.ld (b:=b9) (o:=1) m0 rfl,seval];refine fU (lS S.ok (c:=23)) ?_;rintro _ _ h ⟨rfl,rfl,g⟩;replace S:=(S.call g).drop1;simp only [BZ,Xg];exact dB (gu [K] h S fun z S=>⟨rfl,d O S ((zO _ _).trans (zO _ _)) (zO _ _)⟩)
     have le:(((dJ s k).2.1:Int)<=((R-eB s k:Nat):Int))=True:=eq_true (by omega);have ws:ag .u64 (((R-eB s k:Nat):Int)-((dJ s k).2.1:Int))=((R-eB s (k+1):Nat):Int):=(by rw [show(((R-eB s k:Nat):Int)-((dJ s k).2.1:Int))=((R-eB s (k+1):Nat):Int) by omega];exact cD rfl (by simp only [pw];omega));simp only [BZ,r53,r54,r55,an,hlt,r,y,seval];refine ac au S ?_;clear S;intro h b9 S aL;simp only [BZ,iE,seval];refine aw (S.store (i:=0) rfl ?_ ?_ rfl rfl ?_ ono) ?_
     . exact(by exact Tryz.t193.2.1)
     . exact(by intro x e;cases e)
     . exact lbt rfl
     clear S;rintro h ⟨S,N⟩;clear N;simp only [LC,ae,lay,Xy,Xz,seval]at S;simp only [BZ,r7,le,S.ld (b:=b9) (o:=1) m0 rfl,seval];refine ah (nQ S.ok (c:=23)) ?_;intro h g;replace S:=S.call g;clear g;simp only [BZ,r7,r55,ws,w,S.ld (b:=b9) (o:=1) m0 rfl,seval];exact ih (k+1) _ _ (by omega) ⟨by omega,S.drop1,by simp [am,r0],by simp [am,r2],by simp [am,r3],hL,by simp [am,r53,r54]⟩
   have Y:k=aJ s:=(by omega);subst Y;by_cases hz:R-eB s (aJ s)=0;rotate_left
   . have O: ¬iw s:=fun h=>hz (by have:=(qx h).2.2.2.2;omega);have z0:(((R-eB s (aJ s):Nat):Int)=0)=False:=eq_false (by omega);simp only [BZ,r7,r54,r55,an,hlt,z0,seval];refine fU (lS S.ok (c:=23)) ?_;rintro _ _ h ⟨rfl,rfl,g⟩;replace S:=S.call g;simp only [BZ,Xg];exact dB (gu [K] h S fun z S=>⟨rfl,d O S ((zO _ _).trans (zO _ _)) (zO _ _)⟩)
   have p5:eB s (aJ s)=s.length-(11+13*aJ s):=(by omega);have hh:iw s:=⟨p1,by omega,p2,p3,p4,by rw [esF_eq,<-tK];exact p5⟩;rw [hz]at r7;have z0:((0:Nat):Int)=0:=rfl;simp only [BZ,r7,r54,r55,an,hlt,z0,seval];refine ah (nQ S.ok (c:=23)) ?_;intro h g;replace S:=S.call g;clear g;have J:=(S.gown _ m0).1.sl (xs:=esF s) (encEs s _) kA (by decide);have U:Fl I:=(S.gown _ m0).1.fl;simp only [BZ,r3,J.lenq,Q,S.ld (b:=b3) (o:=0) m2 rfl,seval];replace S:=S.nilG (k:=2);refine az (fun(k:Nat) p h=>k<=aJ s/\ ∃v,St M W h ((K,.dfr)::(bx,.row [ptrTo b] 1)::(b3,.row [I] 1)::(b,.row [ptrTo H,sv s] 1)::(H,.row (rdC s (ke s k) (.pointer none)) 1)::L) ((v,2,((zM (k)).map (gY s)).flatMap encS)::(I,3,(zM (aJ s)).flatMap fun j=>iE (dJ s j))::G)/\(∀j,j<k->crc (gY s j).2=(dJ s j).2.2)/\p 0=ptrTo b/\p 2=v/\p 72=I/\p 73=.int .i64 (aJ s:Nat)/\p 74=.int .i64 (k:Nat)) (fun k=>aJ s-k) ?_ 0 _ _ ⟨Xe _,_,by rw [show ke s 0=11+13*aJ s by simp [ke,eB]];exact S,fun j h=>absurd h (Nat.not_lt_zero _),by simp [am,r0,r2]⟩;clear S J U r0 r2 r3 r7 r53 r54 r55 ih;clear p h;intro k ih p h ⟨hk,v,S,hc,r0,r2,r72,r73,r74⟩;have J:=(S.gown _ m1).1.sl (xs:=esF s) (encEs s _) kA (by decide);have U:Fl v:=(S.gown _ m0).1.fl;have w:ag .i64 ((k:Int)+1)=((k+1:Nat):Int):=(by rw [wrap64]<;>omega);by_cases hlt:k<aJ s
   . obtain⟨c,o,r,y⟩:=J.ix (kd:=.i64) kA (by rw [Q];exact hlt);rw [ak k hlt]at y;have o1:=zC hlt;have o2:=offF_le hh (k+1);have ts:=dg (s:=s) (a:=ke s k) (n:=(dJ s k).2.1) (by omega);have wn:ag .i64 ((dJ s k).2.1:Int)=((dJ s k).2.1:Nat):=(by rw [wrap64]<;>omega);simp only [BZ,r72,r73,r74,an,hlt,r,y,seval];refine ac au S ?_;clear S;intro h E S a4;simp only [BZ,iE,seval];refine aw (S.store (i:=0) rfl ?_ ?_ rfl rfl ?_ ono) ?_
     . exact(by exact Tryz.t193.2.1)
     . exact(by intro x e;cases e)
     . exact lbt rfl
     clear S;rintro h ⟨S,N⟩;clear N;simp only [LC,ae,lay,Xy,Xz,seval]at S;simp only [BZ];refine sV (by kernel_rfl) (n:=14) (by kernel_rfl) (ax rfl) (q:=4096) (ps:=[(2,10)]) (by kernel_rfl) ?_;simp only [Xv,XI,Xk,Xl,Xo,XM,Xd,seval];simp only [BZ,bV,aA,cj,cls,r0,r2,wn,S.ld (b:=E) (o:=0) m0 rfl,S.ld (b:=E) (o:=1) m0 rfl,S.ld (b:=b) (o:=0) m4 rfl,seval];refine cg (By (bad:=false) (St.init1 S.ok (S.own _ m5).2) (i:=0) rfl rfl (by omega) hs (by omega)) ?_;rintro _ h ⟨rfl,f',D,T⟩;rw [ts]at D T⊢;obtain rfl:f'=.pointer none:=D.1;simp only [Xw]at T;have v1:=fP S (i:=0) (j:=5) rfl rfl (by decide) T.fr;have u1:=fP S (i:=4) (j:=5) rfl rfl (by decide) T.fr;replace S:=S.call1 (i:=5) rfl T.fr (T.own _ m0).2;simp only [LC,Xi,Xm]at S;clear T;rw [<-o1]at S;simp only [BZ,cls,pQ,seval];refine ec (bg (by exact Tryz.t33.1) (by exact Tryz.e50E) (by decide) (by rfl)) S ?_;clear S;intro h bs S af ba;simp only [LC,aU,bD,ae,XB,Xk,Xj,XG,seval]at S;have B:aC h 2 (.slice (some ⟨bs,0,none⟩) 1 1)=some (1,encS (gY s k)):=(by simp only [aC];rw [S.lds (b:=bs) (o:=0) (n:=1*2) m0 (lbt rfl)];rfl);replace S:=S.drop1;simp only [BZ,cls,seval];refine jG (S.grow (j:=0) (m:=1) (new:=encS (gY s k)) rfl Tryz.t33.1 Tryz.e50E (by decide) Tryz.t33.2.2.2.2.2 B rfl (by decide) rfl (by rw [aI dE,dE,List.length_map,XX];omega)) ?_;clear S B U J;rintro h v2 S;simp only [LC]at S;rw [show((zM k).map (gY s)).flatMap encS++encS (gY s k)=((zM (k+1)).map (gY s)).flatMap encS by rw [List.range_succ,XT,Xn];simp]at S;have U:Fl v2:=(S.gown _ m0).1.fl;simp only [BZ,seval];refine⟨by simp only [aY,bj,aR,bo,aW,ne_eq,not_false_eq_true,bz,bK,aX,aV,bZ,cw,aS,XK,r0,r2,al,aE v1,aE u1,aT v1,aT u1,seval],?_⟩;have a0:=(S.gown _ m0).1.sl (xs:=(zM (k+1)).map (gY s)) rfl dE (by decide);have ll:((zM (k+1)).map (gY s)).length=k+1:=(by simp);obtain⟨c2,o2,Z,V⟩:=a0.ix (kd:=.i64) dE (i:=k) (by omega);rw [show((zM (k+1)).map (gY s))[k]'(by omega)=gY s k by simp]at V;have a1:_=some [sv (gY s k).2]:=gf V (i:=1) (m:=1) (by decide);have w2:ag .i64 (((k+1:Nat):Int)-1)=(k:Nat):=(by rw [wrap64]<;>omega);refine sV (by kernel_rfl) (n:=11) (by kernel_rfl) (ax rfl) (q:=0) (ps:=[(7,9)]) (by kernel_rfl) ?_;simp only [Xv,XI,Xk,Xl,Xo,XM,Xd,seval];simp only [BZ,cls,r2,a0.lenq,ll,w2,Z,a1,seval];refine fh (wK S.ok (l:=(gY s k).2) (by simp [gY];omega)) ?_;intro h g;have kl:=S.key_lt (b:=E) (by simp [keys]);have v3:=aP g kl;replace S:=S.call g;by_cases ad:crc (gY s k).2=(dJ s k).2.2
     . simp only [BZ,cls,ad,S.ld (b:=E) (o:=2) m0 rfl,seval];refine⟨by simp only [aY,bj,aR,bo,aW,ne_eq,not_false_eq_true,bz,bK,aX,aV,bZ,cw,aS,XK,r0,r2,al,aT v3,aE v3,seval],?_⟩;refine ah (nQ S.ok (c:=24)) ?_;intro h g;replace S:=S.call g;clear g;simp only [BZ,r74,w,seval];exact ih (k+1) _ _ (by omega) ⟨by omega,v2,S.drop1,fun j hj=>by
        rcases Nat.lt_or_eq_of_le (Nat.le_of_lt_succ hj)with h|rfl
        . exact hc j h
        . exact ad,by simp [am,r0,r72,r73]⟩
     . have a5: ¬(((crc (gY s k).2:Nat):Int)=((dJ s k).2.2:Nat)):=(by omega);simp only [BZ,cls,a5,S.ld (b:=E) (o:=2) m0 rfl,seval];refine⟨by simp only [aY,bj,aR,bo,aW,ne_eq,not_false_eq_true,bz,bK,aX,aV,bZ,cw,aS,XK,r0,r2,al,aT v3,aE v3,seval],?_⟩;refine fU (lS S.ok (c:=24)) ?_;rintro _ _ h ⟨rfl,rfl,g⟩;replace S:=(S.call g).drop1;simp only [BZ,Xg];refine dB (gu [K] h S fun z S=>?_);refine⟨rfl,?_⟩;unfold DecQ;rw [yP hh,bodF_no hlt ad];exact⟨ke s (k+1),.pointer none,rfl,S.drop1.drop1.sub (List.Sublist.refl _) ((zO _ _).trans (zO _ _))⟩
   . have Y:k=aJ s:=(by omega);subst Y;simp only [BZ,r2,r73,r74,an,hlt,seval];refine fS (gu [K] h S fun z S=>⟨rfl,[v],?_,?_⟩)
     . rfl
     . refine⟨rfl,?_⟩;unfold DecQ;rw [yP hh,bodF_ok hc];exact⟨ke s (aJ s),.pointer none,v,rfl,S.drop1.drop1.sub (List.Sublist.refl _) ((zO _ _).cons_cons _)⟩
end Go.Ab
end
section
namespace Go.Ab
def SlK{a:Type}(h:Hp)(k:Nat)(enc:a->List Value)(v:Value)(xs:List a):Prop:=
 (v=.slice none 0 0/\xs=[])\/ ∃b o c,v=.slice (some ⟨b,o,some k⟩) xs.length c/\xs.length<=c/\h.load b o (xs.length*k)=some (xs.flatMap enc)
section
variable{α:Type}{h h':Hp}{k:Nat}{enc:α->List Value}{v:Value}{xs:List α}{vs:List Value}
theorem SlK.sl(s:SlK h k enc v xs):ay h k enc v xs:=s.imp id fun⟨b,o,c,a,d,e⟩=>⟨b,o,_,c,a,d,e⟩
theorem SlK.gr(g:Gr h h')(s:SlK h k enc v xs):SlK h' k enc v xs:=s.imp id fun⟨b,o,c,a,d,e⟩=>⟨b,o,c,a,d,g.load e⟩
theorem iB.slk(g:iB h (v,k,vs))(e:vs=xs.flatMap enc)(d: ∀x,(enc x).length=k)(i:0<k):SlK h k enc v xs:=by
 rcases g with⟨c,a⟩|⟨b,n,c,a,f⟩
 . simp only []at c a;refine .inl ⟨c,?_⟩;subst e;cases xs with
   |nil=>rfl|cons x xs=>have:=congrArg Yk a;rw [Xi,Xa,d]at this;simp only [XI]at this;omega
 . simp only []at c a f;subst e;rw [aI d]at a;have j:n=xs.length:=Nat.eq_of_mul_eq_mul_right i a;subst j;refine .inr ⟨b,0,xs.length,c,XF _,?_⟩;rw [f.load (by rw [aI d];omega),Xd,XA (by rw [aI d];omega)]
theorem fm_take(a: ∀x,(enc x).length=k)(n:Nat):((xs.flatMap enc).take (n*k))=(xs.take n).flatMap enc:=by
 induction xs generalizing n with
 |nil=>simp| cons x xs b=>
   cases n with
   |zero=>simp|succ n=>rw [Xi,Xl,Xi,Yi,Yg (n*k) k,<-a x,List.take_length_add_append,a x,b]
theorem fm_drop(a: ∀x,(enc x).length=k)(n:Nat):((xs.flatMap enc).drop (n*k))=(xs.drop n).flatMap enc:=by
 induction xs generalizing n with
 |nil=>simp| cons x xs b=>
   cases n with
   |zero=>simp|succ n=>rw [Xi,XM,Yi,Yg (n*k) k,<-a x,List.drop_length_add_append,a x,b]
variable{E:Env}{t e:TypeId}{n:Nat}{kd:IntKind}
theorem SlK.to(g:E.und t=some (.slice e))(j:E.sz e=some k)(l: ∀x,(enc x).length=k)(s:SlK h k enc v xs)(f:n<=xs.length): ∃v',cK E t v none (some (.int kd (n:Int))) none=some v'/\SlK h k enc v' (xs.take n):=by
 have d: ∀n:Nat,fm (n:Int)=some n:=fun n=>rfl;rcases s with⟨rfl,rfl⟩|⟨b,o,c,rfl,p,q⟩
 . have:n=0:=(by simpa using f);subst this;refine⟨.slice none 0 0,?_,.inl ⟨rfl,by simp⟩⟩;simp only [cK,g,dp,dR,d,j];rfl
 . have a:(xs.take n).length=n:=(by rw [Xh];omega);refine⟨.slice (some ⟨b,o,some k⟩) n c,?_,.inr ⟨b,o,c,by rw [a],by rw [a];omega,?_⟩⟩
   . simp only [cK,g,dp,dR,d,j,Xu (XD f p),cond_true,X6,XB,Nat.add_zero,Nat.sub_zero];cases Nat.beq c 0<;>rfl
   . rw [a];have:=gf q (i:=0) (m:=n*k) (by rw [Xk];exact Xx k f);rw [Nat.add_zero,Xd,fm_take l]at this;exact this
theorem SlK.mo{M:Nat->Prop}(g:Mo M h h')(s:SlK h k enc v xs)(d: ∀b,ar v b-> ¬M b):SlK h' k enc v xs:=s.imp id fun⟨b,o,c,a,f,i⟩=>⟨b,o,c,a,f,by
 have j: ¬M b:=d b (by subst a;rfl);have:=g.get b (bJ g.ok0 i) j;grind [Hp.load]⟩
theorem SlK.from(f:E.und t=some (.slice e))(g:E.sz e=some k)(p: ∀x,(enc x).length=k)(s:SlK h k enc v xs)(j:n<=xs.length): ∃v',cK E t v (some (.int kd (n:Int))) none none=some v'/\SlK h k enc v' (xs.drop n)/\ ∀c,ar v' c->ar v c:=by
 have d: ∀n:Nat,fm (n:Int)=some n:=fun n=>rfl;rcases s with⟨rfl,rfl⟩|⟨b,o,c,rfl,w,q⟩
 . have:n=0:=(by simpa using j);subst this;refine⟨.slice none 0 0,?_,.inl ⟨rfl,by simp⟩,fun _ h=>h⟩;simp only [cK,f,dp,dR,d,g];rfl
 . have a:(xs.drop n).length=xs.length-n:=(by rw [List.length_drop]);have r:=gf q (i:=n*k) (m:=(xs.length-n)*k) (by rw [<-Nat.add_mul];exact Xx k (by omega));rw [fm_drop p,XA (by rw [aI p,a];exact XF _)]at r;cases l:Nat.beq c n with
   | false=>
     refine⟨.slice (some ⟨b,o+n*k,some k⟩) (xs.length-n) (c-n),?_,.inr ⟨b,o+n*k,c-n,by rw [a],by rw [a];omega,by rw [a];exact r⟩,fun _ h=>h⟩;simp only [cK,f,dp,dR,d,g,Xu j,cond_true,X6,Yj,cond_false,l]
   | true=>
     have y:=Ya l;refine⟨.slice (some ⟨b,o,some k⟩) (xs.length-n) (c-n),?_,.inr ⟨b,o,c-n,by rw [a],by rw [a];omega,?_⟩,fun _ h=>h⟩
     . simp only [cK,f,dp,dR,d,g,Xu j,cond_true,X6,Yj,cond_false,l]
     . have u:xs.drop n=[]:=XQ (by omega);rw [u];have:=gf q (i:=0) (m:=0) (by omega);simpa using this
end
end Go.Ab

end
section
namespace Go.Ab
open Go.Proofs
set_option maxRecDepth 10000
theorem pU{M:Nat->Prop}{b hq:Hp}{L:List (Nat×Ob)}{G:List GL}(S:St M b hq L G){s:Bs}:
 Ret zB 59 [sv s] hq fun r d=> ∃a,r=ptrTo a/\St M b d ((a,.row (rdC s 0 (.pointer none)) 1)::L) G:=by
 have f:=S.ok;refine aa (n:=6) (rs:=[.tmp 2]) rfl Tryz.e59 rfl rfl rfl (lbt rfl) ?_;simp only [BZ,pQ (l:=s),seval];refine ac (bR (by intro x e;cases e)) S ?_;clear S;intro h a S c;simp only [ae]at S;simp only [BZ,ab,seval];exact⟨_,rfl,S⟩
theorem fDec1_ok{a:Hp}(b:a.t.Sized a.n){c d:Nat}:dU zB 58 [ptrTo c,ptrTo d] none a fun o e f=>(∃v,o=.ret v)/\e=none/\Gr a f:=by have S:=Si b;refine enter (n:=17) (rs:=[]) rfl Tryz.e58 rfl rfl rfl (lbt rfl) ?_;simp only [BZ,seval];exact dl (cP ⟨rfl,_,rfl,⟨_,rfl⟩,rfl,S.gr⟩)
theorem fDec1_no{M:Nat->Prop}{e hq:Hp}{L:List (Nat×Ob)}{G:List GL}{a b i j:Nat}{u w:Value}(S:St M e hq L G)(f:L[i]? =some (a,.row [u] 1))(g:L[j]? =some (b,.row [w] 1))(d:i≠j){c:Int}:
 dU zB 58 [ptrTo a,ptrTo b] (some (.iface 29 (.int .i64 c),false)) hq fun o k l=>(∃v,o=.ret v)/\k=some (.iface 29 (.int .i64 c),true)/\St M e l ((L.set i (a,.row [.slice none 0 0] 1)).set j (b,.row [.int .i64 c] 1)) G:=by
 have m:=S.ok;refine enter (n:=17) (rs:=[]) rfl Tryz.e58 rfl rfl rfl (lbt rfl) ?_;simp only [BZ,seval];refine aw (aq S (i:=i) f Tryz.t33.2.2.1 ce (Xb (lbt rfl)) ono) ?_;clear S;rintro h ⟨S,_⟩;simp only [BZ,seval];refine aw (aq S (i:=j) (by rw [List.getElem?_set_ne d];exact g) Tryz.t29.2.2.1 ca (Xb (lbt rfl)) ono) ?_;clear S;rintro h ⟨S,_⟩;simp only [BZ];exact dl (cP ⟨rfl,_,rfl,⟨_,rfl⟩,rfl,S⟩)
theorem rR{d:Hp}(ok:d.t.Sized d.n){s:Bs}(A:s.length<=1000000):Ret zB 18 [sv s] d fun r k=>Gr d k/\match kI s with
 | .ok l=> ∃v,r=.tuple #[v,.int .i64 0]/\SlK k 2 encS v l/\ ∀c,ar v c->d.n<=c| .error e=>r=.tuple #[.slice none 0 0,.int .i64 (if e=true then 24 else 23)]:=by
 have S:=Si ok;refine aa (n:=13) (rs:=[.cell 2 33,.cell 3 29]) rfl Tryz.e18 rfl rfl rfl (lbt rfl) ?_;simp only [BZ];refine ac au S ?_;clear S;intro h C S q;simp only [BZ];refine ac au S ?_;clear S;intro h D S t;simp only [BZ,seval];refine step_ret (pU S) ?_;rintro _ h ⟨E,rfl,S⟩;simp only [BZ,pQ (l:=s),seval];refine ac (bR (by intro x e;cases e)) S ?_;clear S;intro h B S m;simp only [ae]at S;simp only [BZ,seval];refine fU (decode_ok S A) ?_;rintro o u h ⟨rfl,P⟩;unfold DecQ at P;obtain⟨a,f,P⟩:=P;cases w:kI s with
 | error e=>
   simp only [w]at P;obtain⟨rfl,S⟩:=P;simp only [BZ];refine dB (un_fn_pan (eQ (fDec1_no S (i:=3) (j:=2) rfl rfl (by decide)) fun o u k ⟨a,e,S⟩=>⟨a,_,_,e,cP ?_⟩));simp only [LC,Xi,Xm]at S;simp only [if_true];refine(fd (by decide) (by simp only [aS,al,seval];exact jw Tryz.t33.2.1 (S.ld m3 rfl))).2 ?_;refine(fd (by decide) (by simp only [aS,al,seval];exact jw Tryz.t29.2.1 (S.ld m2 rfl))).2 ?_;exact gR.2 ⟨S.gr,rfl⟩
 | ok l=>
   simp only [w]at P;obtain⟨v,rfl,S⟩:=P;simp only [BZ,seval];have F:Fl v:=(S.gown _ m0).1.fl;refine aw (aq S (i:=3) rfl ?_ ?_ ?_ ono) ?_
   . exact(by simp only [X5])
   . exact(by assumption)
   . exact Xb (lbt rfl)
   clear S;rintro h ⟨S,p⟩;clear p;simp only [LC,ae,lay,Xy,Xz,seval]at S;simp only [BZ,seval];refine aw (aq S (i:=2) rfl ?_ ?_ ?_ ono) ?_
   . exact(by simp only [X5])
   . exact(by exact ca)
   . exact Xb (lbt rfl)
   clear S;rintro h ⟨S,p⟩;clear p;simp only [LC,ae,lay,Xy,Xz,seval]at S;simp only [BZ];refine fS (un_fn (eQ (fDec1_ok S.ok) fun o u k ⟨a,e,g⟩=>⟨a,e,cP ⟨rfl,?_⟩⟩));replace S:=S.call g;refine(fd (by decide) (by simp only [aS,al,seval];exact jw Tryz.t33.2.1 (S.ld m3 rfl))).2 ?_;refine(fd (by decide) (by simp only [aS,al,seval];exact jw Tryz.t29.2.1 (S.ld m2 rfl))).2 ?_;exact gR.2 ⟨S.gr,v,rfl,(S.gown _ m0).1.slk rfl dE (by decide),fun c y=>by
    have z:=S.gown _ m0;rcases z.1 with⟨e,_⟩|⟨b,n,e,_⟩
    . have e:v=_:=e;subst e;exact y.elim
    . have e:v=.slice (some ⟨b,0,some 2⟩) n n:=e;subst e;exact(z.2 b rfl).elim (fun h=>by have:c=b:=y.symm;omega) (fun h=>h.elim)⟩
end Go.Ab
end
section
namespace Go.Ab
structure Tab where
 l:List Int
 to:List (List Int)
 fr:List (List Int)
structure Img where
 g:Gra
 T:Option Tab
 C:Option (List Int×Bs)
theorem y5{a:Type}{p:a->Bs}{w:Nat}(l:List a)(b: ∀x∈l,(p x).length=w):(l.flatMap p).length=w*l.length:=by
 induction l with
 |nil=>rfl|cons x l c=>rw [Xi,Xa,b x (by simp),c (fun y d=>b y (by simp [d])),Xv,Nat.mul_succ];omega
theorem CK{a:Type}{f:Bs->a}{p:a->Bs}{w:Nat}(l:List a)(c: ∀x∈l,(p x).length=w)(h: ∀x∈l,f (p x)=x)(r:Bs):eo f w l.length (l.flatMap p++r)=l:=by
 induction l with
 |nil=>rfl| cons x l d=>
   have e:=c x (by simp);rw [Xi,Xs,Xv,eo,List.take_left' e,X8 e,h x (by simp),d (fun y b=>c y (by simp [b])) (fun y b=>h y (by simp [b]))]
def mix:List (List Int)->List (List Int)->List (List Int)
 |a::l,b::m=>a::b::mix l m|_,_=>[]
def sk:List (List Int)->List (List Int)
 |a::_::l=>a::sk l|l=>l
def odds:List (List Int)->List (List Int)
 |_::b::l=>b::odds l|_=>[]
theorem uH{l m:List (List Int)}(h:l.length=m.length):(mix l m).length=2*l.length:=by
 induction l generalizing m with
 |nil=>cases m<;>rfl
 | cons a l c=>
   cases m with
   |nil=>cases h
   |cons b m=>simp only [mix,Xv];rw [c (by simpa using h)];omega
theorem evens_mix{l m:List (List Int)}(h:l.length=m.length):sk (mix l m)=l/\odds (mix l m)=m:=by
 induction l generalizing m with
 | nil=>cases m with
   |nil=>exact⟨rfl,rfl⟩|cons _ _=>cases h
 | cons a l c=>
   cases m with
   |nil=>cases h
   |cons b m=>obtain⟨d,e⟩:=c (m:=m) (by simpa using h);exact⟨by simp only [mix,sk,d],by simp only [mix,odds,e]⟩
theorem yu{l m:List (List Int)}{x:List Int}(h:x∈mix l m):x∈l\/x∈m:=by
 induction l generalizing m with
 |nil=>cases m<;>cases h
 | cons a l c=>
   cases m with
   |nil=>cases h
   | cons b m=>
     simp only [mix,List.mem_cons]at h⊢;rcases h with h|h|h
     . exact .inl (.inl h)
     . exact .inr (.inl h)
     . exact(c h).imp .inr .inr
def ot(v:Int):Bs:=aK 4 v.toNat
def markG(s:Bs):Int:=(bC s:Int)
theorem oU(v:Int):(ot v).length=4:=aF 4 _
def py(r:List Int):Bs:=r.flatMap put8
def fW(T:Tab):Bs:=aK 1 T.l.length++(T.l.flatMap ot++(mix T.to T.fr).flatMap py)
def se(s:Bs):Nat:=bC (s.take 1)
def qI(N:Nat)(s:Bs):List (List Int):=eo (eo mi 8 N) (8*N) (2*se s) (s.drop (1+4*se s))
def tabG(N:Nat)(s:Bs):Tab:=⟨eo markG 4 (se s) (s.drop 1),sk (qI N s),odds (qI N s)⟩
structure TabL(N:Nat)(T:Tab):Prop where
 l1:1<=T.l.length
 l2:T.l.length<=16
 to:T.to.length=T.l.length
 fr:T.fr.length=T.l.length
 rTo: ∀r∈T.to,r.length=N/\ ∀x∈r,0<=x/\x<=72057594037927936
 rFr: ∀r∈T.fr,r.length=N/\ ∀x∈r,0<=x/\x<=72057594037927936
 rl: ∀x∈T.l,0<=x/\x<4294967296
theorem wh{N:Nat}{r:List Int}(h:r.length=N):(py r).length=8*N:=by unfold py;rw [dO nu,h]
theorem Bh{N:Nat}{T:Tab}(h:TabL N T):(fW T).length=1+T.l.length*(4+16*N):=by have c: ∀r∈mix T.to T.fr,r.length=N:=fun r a=>(yu a).elim (fun b=>(h.rTo r b).1) (fun b=>(h.rFr r b).1);have:=h.to;have:=h.fr;unfold fW;rw [Xa,Xa,aF,dO oU,y5 _ (fun r a=>wh (c r a)),uH (by omega),h.to,Nat.mul_add,Nat.mul_left_comm (8*N),X4 (8*N),<-Yf,X4 T.l.length 4,show T.l.length*(16*N)=2*T.l.length*(8*N) by rw [show 16*N=2*(8*N) by omega,<-Yf,X4 T.l.length 2],<-Yf]
theorem tabG_tabB{N:Nat}{T:Tab}(h:TabL N T):se (fW T)=T.l.length/\tabG N (fW T)=T:=by
 have g: ∀r∈mix T.to T.fr,r.length=N/\ ∀x∈r,0<=x/\x<=72057594037927936:=fun r a=>(yu a).elim (fun c=>h.rTo r c) (fun c=>h.rFr r c);have d:=h.to;have k:=h.fr;have n:=h.l2;have i:se (fW T)=T.l.length:=by unfold se fW;rw [List.take_left' (aF 1 _),fJ (by omega)]
 have j:(fW T).drop 1=T.l.flatMap ot++(mix T.to T.fr).flatMap py:=by unfold fW;exact X8 (aF 1 _)
 have o:(fW T).drop (1+4*T.l.length)=(mix T.to T.fr).flatMap py:=by rw [<-XN,j];exact X8 (by rw [dO oU])
 have q:eo markG 4 T.l.length (T.l.flatMap ot++(mix T.to T.fr).flatMap py)=T.l:=qX oU T.l (fun x e=>by
  have:=h.rl x e;unfold markG ot;rw [fJ (by omega)];omega) _
 have s:eo (eo mi 8 N) (8*N) (2*T.l.length) ((mix T.to T.fr).flatMap py)=mix T.to T.fr:=by
  have:=CK (f:=eo mi 8 N) (p:=py) (w:=8*N) (mix T.to T.fr) (fun r a=>wh (g r a).1) (fun r a=>by
   have b:=g r a;have:=qX (f:=mi) nu r (fun x e=>ui (by have:=b.2 x e;omega)) [];rw [Xq,b.1]at this;exact this) []
  rw [Xq,uH (by omega),d]at this;exact this
 refine⟨i,?_⟩;obtain⟨m1,m2⟩:=evens_mix (l:=T.to) (m:=T.fr) (by omega);unfold tabG qI;rw [i,j,o,q,s,m1,m2]
def gc(m:List Int):Bs:=m.map fun c=>UInt8.ofNat c.toNat
def eO(I:Img):List Sec:=(1,fo I.g)::((match I.T with|some T=>[(2,fW T)]|none=>[])++(match I.C with|some (m,f)=>[(3,gc m),(4,f)]|none=>[]))
end Go.Ab

end
section
namespace Go.Ab
open Go.Proofs
set_option maxRecDepth 10000
theorem slice_at{E:Env}{t e:TypeId}{b k len cap l m:Nat}{a c d:IntKind}(i:E.und t=some (.slice e))(j:E.sz e=some k)(f:l<=m)(o:m<=cap):
 cK E t (.slice (some ⟨b,0,none⟩) len cap) (some (.int a (l:Int))) (some (.int c (l:Int))) (some (.int d (m:Int)))=some (.slice (some ⟨b,if m=l then 0 else l*k,none⟩) 0 (m-l)):=by
 have g: ∀n:Nat,fm (n:Int)=some n:=fun n=>rfl;simp only [cK,i,dp,dR,g,Xu o,Xu f,Xu (XF l),cond_true,j,Yh,Option.map];by_cases h:m=l
 . subst h;rw [X6];simp
 . have:Nat.beq m l=false:=by
    cases p:Nat.beq m l with
    |false=>rfl|true=>exact absurd (Ya p) h
   rw [this,if_neg h];simp [gQ]
theorem St.fill{M:Nat->Prop}{m h:Hp}{L:List (Nat×Ob)}{G:List GL}(S:St M m h L G){E:Env}{t n e:TypeId}{d i b off len cap md:Nat}{u l:List Value}{s:Option Nat}{x v:Value}(p:L[i]? =some (b,.row l md))(w:E.und t=some (.slice e))(z:dP E e d 1 u)
 (A:dV E n=some false) (a:aC h 1 x=some (1,[v])) (B:Fl v) (I:len<cap) (C:off+len<l.length) (f:md≠0) {ts:List TypeId}:
 ∃g,du E h (t::n::ts) (.slice (some ⟨b,off,s⟩) len cap) x=some (g,.slice (some ⟨b,off,s⟩) (len+1) cap)/\St M m g (L.set i (b,.row (l.set (off+len) v) md)) G/\Mo (· =b) h g:=by
 obtain⟨⟨J,k,rfl,c⟩,K,D⟩:=z;have F:=S.row (Xc p);obtain⟨y,H,q⟩:=F.store S.ok f (o:=off+len) (vs:=[v]) (by simp;omega) (by simp [B.2.1]);have e:lay l (off+len) [v]=l.set (off+len) v:=by
  refine XO fun j=>?_;rw [jO (by simp;omega),XY];simp only [Xv,XI];by_cases r:off+len=j
  . subst r;rw [if_pos ⟨XF _,by omega⟩,if_pos rfl,if_pos C];simp
  . rw [if_neg (by omega),if_neg r]
 rw [e]at q;refine⟨h.put b y,?_,S.put p q,(Mo.refl (M:=(· =b)) S.ok).put (.inr rfl) y⟩;simp only [du,A,jY,w,k,c,a];unfold fK;rw [Xu (by omega:len+1<=cap)];simp only [cond_true,c,Xj,H]
theorem note_runq{ρ:Operand->Value}{f:Operand}{xs:Array Operand}{ts:Array TypeId}{h a:Hp}:cH ρ true (.call ⟨.value f,xs,ts⟩) h a=none:=rfl
theorem yQ{i:Nat}:cF i []=none:=rfl
theorem pair_n{x:Option Tch}:kK none x=true:=rfl
def KeyF(E:Env)(g:FuncId)(f:Arc->Nat):Prop:= ∀(h:Hp) (a:Arc),h.t.Sized h.n->bG E g [.agg ⟨cE a⟩] h (.int .i64 (f a))
theorem of2_key:KeyF zB 130 Arc.s:=by intro f a c;have S:=Si c;refine aa (n:=5) (rs:=[.tmp 2]) rfl Tryz.e130 rfl rfl rfl (lbt rfl) ?_;simp only [BZ,cE,seval];refine ac (bR (by intro x e;cases e)) S ?_;clear S;intro h b S d;simp only [ae]at S;simp only [BZ,ab,S.ld (b:=b) (o:=0) m0 rfl,seval];exact S.gr
theorem of3_key:KeyF zB 131 Arc.t:=by intro f a c;have S:=Si c;refine aa (n:=5) (rs:=[.tmp 2]) rfl Tryz.e131 rfl rfl rfl (lbt rfl) ?_;simp only [BZ,cE,seval];refine ac (bR (by intro x e;cases e)) S ?_;clear S;intro h b S d;simp only [ae]at S;simp only [BZ,ab,S.ld (b:=b) (o:=1) m0 rfl,seval];exact S.gr
theorem qE(A:List Arc)(f:Arc->Nat)(j v:Nat):(outs A f j v).length<=j:=by unfold outs;exact XD (List.length_filter_le _ _) (by simp)
theorem yo(z:Value)(N:Nat):aU [z] ((N:Int)).toNat=(zM N).map fun _=>z:=by
 rw [XP];have: ∀n,aU [z] n=List.replicate n z:=by
  intro n
  induction n with
  |zero=>rfl|succ n a=>simp [aU,a,List.replicate_succ]
 rw [this,List.map_const',XX]
def nU(A:List Arc)(f:Arc->Nat)(i v:Nat):Value:=.int .i64 ((outs A f i v).length:Nat)
def iF(A:List Arc)(f:Arc->Nat)(b v n:Nat):Value:=.slice (some ⟨b,if(outs A f A.length v).length=0 then 0 else start A f v,none⟩) n (outs A f A.length v).length
theorem cnt_set{A:List Arc}{f:Arc->Nat}{N i:Nat}(c:i<A.length):((zM N).map (nU A f i)).set (f A[i]) (.int .i64 (((outs A f i (f A[i])).length+1:Nat):Int))=(zM N).map (nU A f (i+1)):=by
 have b:A.getD i default=A[i]:=by simp [XL,c]
 have e:(.int .i64 (((outs A f i (f A[i])).length+1:Nat):Int):Value)=nU A f (i+1) (f A[i]):=by unfold nU;rw [iS,b,if_pos rfl,Xa];rfl
 rw [e];refine kD fun v d a=>?_;unfold nU;rw [iS,b,if_neg (fun e=>a e.symm),Xq]
def xC(A:List Arc)(f:Arc->Nat)(N i:Nat)(cs:List Value):Prop:=
 cs.length=A.length/\ ∀v r x,v<N->(outs A f i v)[r]? =some x->cs[start A f v+r]? =some (.int .i64 (x:Nat))
theorem fill_zero{A:List Arc}{f:Arc->Nat}{N:Nat}:xC A f N 0 ((zM A.length).map fun _=>.int .i64 0):=
 ⟨by simp,fun v r x _ h=>by simp [outs]at h⟩
theorem fill_step{A:List Arc}{f:Arc->Nat}{N i:Nat}{cs:List Value}(h:xC A f N i cs)(k:i<A.length):xC A f N (i+1) (cs.set (start A f (f A[i])+(outs A f i (f A[i])).length) (.int .i64 (i:Nat))):=by
 have c:A.getD i default=A[i]:=by simp [XL,k]
 have g:(outs A f (i+1) (f A[i])).length<=(outs A f A.length (f A[i])).length:=yf A f (by omega) _;rw [iS,c,if_pos rfl,Xa]at g;have hlt:(outs A f i (f A[i])).length<(outs A f A.length (f A[i])).length:=by simp at g;omega
 have l:=qZ A f (f A[i]);refine⟨by rw [X9];exact h.1,fun v r x m a=>?_⟩;have n:r<(outs A f (i+1) v).length:=(List.getElem?_eq_some_iff.1 a).1;have d:r<(outs A f A.length v).length:=Nat.lt_of_lt_of_le n (yf A f (by omega) v);rw [XY];by_cases e:start A f (f A[i])+(outs A f i (f A[i])).length=start A f v+r
 . obtain⟨b,o⟩:=B3 A f hlt d e;subst b;rw [if_pos e,if_pos (by rw [h.1];omega)];rw [iS,c,if_pos rfl,Ye,if_neg (by omega),o,Yh]at a;simp at a;rw [a]
 . rw [if_neg e];refine h.2 v r x m ?_;rw [iS,c]at a;by_cases b:f A[i]=v
   . rw [if_pos b,Ye]at a;subst b;by_cases j:r<(outs A f i (f A[i])).length
     . rw [if_pos j]at a;exact a
     . rw [if_neg j]at a;have:=(List.getElem?_eq_some_iff.1 a).1;simp at this;exact absurd (by omega) e
   . rw [if_neg b,Xq]at a;exact a
theorem of1_ok {t:Hp} (ok:t.t.Sized t.n) {y:Gra} (K:fI y) {vx vy L:Value} {b:Nat} (hb:Row t b [.int .i64 y.nodes,vx,vy,L] 1) (ga:dh t vx vy L y) {g:FuncId} {f:Arc->Nat} (hk:KeyF zB g f) (hf: ∀a∈y.arcs,f a<y.nodes):
 Ret zB 129 [.func (.func g) #[] #[],ptrTo b] t fun v Z=>Gr t Z/\ia Z t.n v y.nodes (outs y.arcs f y.arcs.length):=by
 have S:=Si ok;have n2:=K.n2;have M:=K.many;obtain⟨N,X,Y,A⟩:=y;simp only []at hb n2 M hf;have O:ay t 3 cE L A:=ga.A;have l0:=hb.load1 (o:=0) rfl;have l3:=hb.load1 (o:=3) rfl;refine aa (n:=85) (rs:=[.tmp 3]) rfl Tryz.e129 rfl rfl rfl (lbt rfl) ?_;simp only [BZ,l0,seval];refine ac (kC (by exact Tryz.t38.1) (by exact X7) (by omega) (by omega)) S ?_;clear S;intro h C S aL;rw [yo]at S;replace S:St NoM t h [(C,.row ((zM N).map (nU A f 0)) 1)] []:=S;simp only [BZ,S.old l3 (fun h=>h),O.lenq,XP,seval];refine az (fun(i:Nat) m h=>i<=A.length/\St NoM t h [(C,.row ((zM N).map (nU A f i)) 1)] []/\m 0=.func (.func g) #[] #[]/\m 1=ptrTo b/\m 4=.slice (some ⟨C,0,none⟩) N N/\m 18=L/\m 19=.int .i64 A.length/\m 20=.int .i64 i) (fun i=>A.length-i) ?_ 0 _ _ ?_
 . clear S;intro i Q m h ⟨hi,S,r0,r1,r4,r18,r19,r20⟩;by_cases hlt:i<A.length
   . obtain⟨c,o,u,D⟩:=(O.gr S.gr).ix (kd:=.i64) ez hlt;have p:f A[i]<N:=hf _ (XR hlt);have a5:=qE A f i (f A[i]);have w:ag .i64 ((i:Int)+1)=((i+1:Nat):Int):=(by rw [wrap64]<;>omega);have w2:ag .i64 (((outs A f i (f A[i])).length:Int)+1)=(((outs A f i (f A[i])).length+1:Nat):Int):=(by rw [wrap64]<;>omega);simp only [BZ,r18,r19,r20,an,hlt,u,D,seval];refine ac au S ?_;clear S;intro h b6 S a0;simp only [BZ,cE,seval];refine aw (S.store (i:=0) rfl ?_ ?_ rfl rfl ?_ ono) ?_
     . exact(by exact Tryz.t90.2.1)
     . exact(by intro x e;cases e)
     . exact lbt rfl
     clear S;rintro h ⟨S,z⟩;clear z;simp only [LC,ae,lay,Xy,Xz,seval]at S;simp only [BZ,r0,r4,S.lds (b:=b6) (o:=0) (n:=3) m0 (lbt rfl),seval];refine ah (hk _ A[i] S.ok) ?_;intro h g;replace S:=S.call g;clear g;have E:=S.ld (b:=C) (o:=f A[i]) m1 (n9 (F:=nU A f i) p);unfold nU at E;simp only [BZ,p,E,w2,seval];refine aw (aq S (i:=1) rfl Tryz.t3.2.2.1 ca (by simpa using p) ono) ?_;clear S E;rintro h ⟨S,z⟩;clear z;simp only [LC]at S;rw [cnt_set hlt]at S;replace S:=S.drop1;simp only [BZ,r20,w,seval];exact Q (i+1) _ _ (by omega) ⟨by omega,S,by simp [am,r0,r1,al,r4,r18,r19]⟩
   . have G : i=A.length:=(by omega);subst G;simp only [BZ,r19,r20,an,hlt,seval];refine av (ax rfl) (q:=72) (ps:=[]) (by kernel_rfl) ?_;simp only [BZ,cls,r1,S.old l3 (fun h=>h),O.lenq,seval];refine ec (kC (by exact Tryz.t38.1) (by exact X7) (by omega) (by omega)) S ?_;clear S;intro h d S R a1;rw [yo]at S;simp only [BZ,cls,r1,S.old l0 (fun h=>h),XP,seval];refine ec (kC (by exact Tryz.t162.1) (by exact Tryz.e38E) (by omega) (by omega)) S ?_;clear S;intro h I S T a2;rw [yo]at S;simp only [BZ,cls,r4,XP,seval];have e0:(zM N).map (fun v=>if v<0 then iF A f d v 0 else .slice none 0 0)=(zM N).map (fun _=>(.slice none 0 0:Value)):=(by simp);rw [<-e0]at S;refine az (fun(j:Nat) m h=>j<=N/\St NoM t h [(I,.row ((zM N).map fun v=>if v<j then iF A f d v 0 else .slice none 0 0) 1),(d,.row ((zM A.length).map fun _=>.int .i64 0) 1),(C,.row ((zM N).map (nU A f A.length)) 1)] []/\
      m 0=.func (.func g) #[] #[]/\m 1=ptrTo b/\m 7=.slice (some ⟨d,0,none⟩) A.length A.length/\m 8=.slice (some ⟨I,0,none⟩) N N/\m 9=.int .i64 (start A f j)/\m 40=.slice (some ⟨C,0,none⟩) N N/\m 41=.int .i64 N/\m 42=.int .i64 j) (fun j=>N-j) ?_ 0 _ _ ?_
     . clear S r0 r1 r4 r18 r19 r20;intro j Q m h ⟨hj,S,r0,r1,r7,r8,r9,r40,r41,r42⟩;by_cases B:j<N
       . have E:=S.ld (b:=C) (o:=j) m2 (n9 (F:=nU A f A.length) B);unfold nU at E;have ad:=qZ A f j;have w:ag .i64 ((j:Int)+1)=((j+1:Nat):Int):=(by rw [wrap64]<;>omega);have w2:ag .i64 ((start A f j:Int)+((outs A f A.length j).length:Nat))=((start A f j+(outs A f A.length j).length:Nat):Int):=(by rw [wrap64]<;>omega);have sl:cK zB 38 (.slice (some ⟨d,0,none⟩) A.length A.length) (some (.int .i64 (start A f j))) (some (.int .i64 (start A f j))) (some (.int .i64 ((start A f j+(outs A f A.length j).length:Nat):Int)))=some (iF A f d j 0):=by
          rw [slice_at Tryz.t38.1 Tryz.t3.2.2.1 (by omega) (by omega)];unfold iF;rw [Nat.add_sub_cancel_left,Xj];by_cases H:(outs A f A.length j).length=0
          . rw [if_pos (by omega),if_pos H]
          . rw [if_neg (by omega),if_neg H]
         have fr:Fl (iF A f d j 0):=ce;simp only [BZ,XE,r7,r8,r9,r40,r41,r42,an,B,E,w2,sl,seval];refine aw (aq S (i:=0) rfl Tryz.t38.2.2.1 fr (by simpa using B) ono) ?_;clear S E;rintro h ⟨S,z⟩;clear z;simp only [LC]at S;rw [show((zM N).map fun v=>if v<j then iF A f d v 0 else .slice none 0 0).set j (iF A f d j 0)=(zM N).map fun v=>if v<j+1 then iF A f d v 0 else .slice none 0 0 from by
          have:=kD (N:=N) (k:=j) (F:=fun v=>if v<j then iF A f d v 0 else .slice none 0 0) (F':=fun v=>if v<j+1 then iF A f d v 0 else .slice none 0 0) (fun v J U=>by
           show ite _ _ _=ite _ _ _;by_cases h1:v<j
           . rw [if_pos h1,if_pos (by omega)]
           . rw [if_neg h1,if_neg (by omega)])
          simp only [if_pos (show j<j+1 by omega)]at this;exact this]at S
         simp only [BZ,r9,r42,w,w2,seval];exact Q (j+1) _ _ (by omega) ⟨by omega,S,by simp [am,r0,r1,al,r7,r8,start,r40,r41]⟩
       . have af:j=N:=(by omega);subst af;simp only [BZ,r1,r41,r42,an,B,S.old l3 (fun h=>h),O.lenq,seval];have e1:((zM j).map fun v=>if v<j then iF A f d v 0 else .slice none 0 0)=(zM j).map fun v=>iF A f d v (outs A f 0 v).length:=(by refine XU fun v J=>?_;rw [if_pos (List.mem_range.1 J)];rfl);rw [e1]at S;refine az (fun(i:Nat) m h=>i<=A.length/\(∃cs,xC A f j i cs/\St NoM t h [(I,.row ((zM j).map fun v=>iF A f d v (outs A f i v).length) 1),(d,.row cs 1),(C,.row ((zM j).map (nU A f A.length)) 1)] [])/\
          m 0=.func (.func g) #[] #[]/\m 1=ptrTo b/\m 8=.slice (some ⟨I,0,none⟩) j j/\m 62=L/\m 63=.int .i64 A.length/\m 64=.int .i64 i) (fun i=>A.length-i) ?_ 0 _ _ ?_
         . clear S r0 r1 r7 r8 r9 r40 r41 r42;intro i Q m h ⟨hi,⟨cs,hcs,S⟩,r0,r1,r8,r62,r63,r64⟩;by_cases hlt:i<A.length
           . obtain⟨c,o,u,D⟩:=(O.gr S.gr).ix (kd:=.i64) ez hlt;have p:f A[i]<j:=hf _ (XR hlt);have w:ag .i64 ((i:Int)+1)=((i+1:Nat):Int):=(by rw [wrap64]<;>omega);simp only [BZ,r62,r63,r64,an,hlt,u,D,seval];refine ac au S ?_;clear S;intro h V S ai;simp only [BZ,cE,seval];refine aw (S.store (i:=0) rfl ?_ ?_ rfl rfl ?_ ono) ?_
             . exact(by exact Tryz.t90.2.1)
             . exact(by intro x e;cases e)
             . exact lbt rfl
             clear S;rintro h ⟨S,z⟩;clear z;simp only [LC,ae,lay,Xy,Xz,seval]at S;simp only [BZ];refine av (ax rfl) (q:=2184) (ps:=[(3,6)]) (by kernel_rfl) ?_;simp only [BZ,cls,r0,r8,S.lds (b:=V) (o:=0) (n:=3) m0 (lbt rfl),seval];refine dq_pure (hk _ A[i] S.ok) ?_;intro h W;replace S:=S.call W;clear W;simp only [BZ,cls,r0,r8,S.lds (b:=V) (o:=0) (n:=3) m0 (lbt rfl),seval];refine dq_pure (hk _ A[i] S.ok) ?_;intro h W;replace S:=S.call W;clear W;have hd:A.getD i default=A[i]:=(by simp [XL,hlt]);have hl:(outs A f (i+1) (f A[i])).length<=(outs A f A.length (f A[i])).length:=yf A f (by omega) _;rw [iS,hd,if_pos rfl,Xa,Yb]at hl;have ad:=qZ A f (f A[i]);have hK:(outs A f A.length (f A[i])).length≠0:=(by omega);have lr:=S.ld (b:=I) (o:=f A[i]) m1 (n9 (F:=fun v=>iF A f d v (outs A f i v).length) p);simp only [iF,if_neg hK]at lr;simp only [BZ,cls,p,lr,seval];refine ec (bg (by exact Tryz.t38.1) (by exact X7) (by decide) (by rfl)) S ?_;clear S;intro h bs S a3 a4;simp only [LC,aU,bD,ae,XB,Xk,Xj,XG,seval]at S;simp only [BZ,cls,seval];obtain⟨h2,e2,S2,ak⟩:=S.fill (i:=3) (x:=.slice (some ⟨bs,0,none⟩) 1 1) (v:=.int .i64 (i:Nat)) (off:=start A f (f A[i])) (len:=(outs A f i (f A[i])).length) (cap:=(outs A f A.length (f A[i])).length) (s:=none) rfl Tryz.t38.1 X7 Tryz.t38.2.2.2.2.2
              (by simp only [aC];rw [S.lds (b:=bs) (o:=0) (n:=1*1) m0 (lbt rfl)];rfl) ca (by omega) (by have:=hcs.1;omega) ono (ts:=[])
             refine jG (P:=fun Z v=>Z=h2/\v=.slice (some ⟨d,start A f (f A[i]),none⟩) ((outs A f i (f A[i])).length+1) (outs A f A.length (f A[i])).length) ⟨_,_,e2,rfl,rfl⟩ ?_;rintro h v ⟨rfl,rfl⟩;clear S e2 ak;have S:=S2;clear S2;simp only [LC]at S;simp only [BZ,cls,p,seval];refine dN (aq S (i:=2) rfl Tryz.t38.2.2.1 ce (by simpa using p) ono) ?_;clear S;rintro h ⟨S,z⟩;clear z;simp only [LC]at S;have e3:((zM j).map fun v=>iF A f d v (outs A f i v).length).set (f A[i]) (.slice (some ⟨d,start A f (f A[i]),none⟩) ((outs A f i (f A[i])).length+1) (outs A f A.length (f A[i])).length)=(zM j).map fun v=>iF A f d v (outs A f (i+1) v).length:=by
              have:=kD (N:=j) (k:=f A[i]) (F:=fun v=>iF A f d v (outs A f i v).length) (F':=fun v=>iF A f d v (outs A f (i+1) v).length) (fun v J U=>by
               show iF _ _ _ _ _=iF _ _ _ _ _;rw [iS,hd,if_neg (fun e=>U e.symm),Xq])
              rw [<-this];congr 1;show _=iF _ _ _ _ _;rw [iS,hd,if_pos rfl,Xa];unfold iF;rw [if_neg hK];rfl
             rw [e3]at S;replace S:=S.drop1.drop1;simp only [BZ,r64,w,seval];refine⟨by simp only [aY,bj,aR,bo,aW,ne_eq,not_false_eq_true,bz,bK,aX,aV,bZ,cw,aS,XK,r0,r1,r8,al,note_runq,pP,yQ,pair_n,seval],?_⟩;exact Q (i+1) _ _ (by omega) ⟨by omega,⟨_,fill_step hcs hlt,S⟩,by simp [am,r0,r1,al,r8,r62,r63]⟩
           . have G:i=A.length:=(by omega);subst G;simp only [BZ,ab,r8,r63,r64,an,hlt,seval];refine⟨S.gr,I,_,rfl,T,S.row m0,by simp,fun v J=>⟨_,n9 J,.inr ⟨d,_,none,_,rfl,XF _,?_⟩,fun c (hc:d=c)=>hc▸R⟩⟩;have hR:=S.row (b:=d) (l:=cs) (md:=1) m1;have ht:=qZ A f v;have hl:=hcs.1;rw [Xj];by_cases H:(outs A f A.length v).length=0
             . rw [if_pos H,H,hR.load (by omega)];rw [List.length_eq_zero_iff.1 H];rfl
             . rw [if_neg H,hR.load (by omega)];congr 1;refine XO fun r=>?_;have e4:(outs A f A.length v).flatMap eS=(outs A f A.length v).map fun x=>.int .i64 (x:Nat):=(by rw [Yc,List.map_eq_flatMap,Yc];rfl);rw [e4,List.getElem?_map,List.getElem?_take,List.getElem?_drop];by_cases hr:r<(outs A f A.length v).length
               . rw [if_pos hr,hcs.2 v r _ J (XC hr),XC hr];rfl
               . rw [if_neg hr,Yd (by omega)];rfl
         . exact⟨Xe _,⟨_,fill_zero,S⟩,by simp [am,r0,r1,al,r8]⟩
     . exact⟨Xe _,S,by simp [am,r0,r1,al,start,r4]⟩
 . exact⟨Xe _,S,by simp [am,cq,cV,al]⟩
theorem of_ok{k:Hp}(G:k.t.Sized k.n){r:Gra}(d:fI r){s t u:Value}(w:dh k s t u r){m:Nat}(y:m<=k.n)(H: ∀c,ar s c\/ar t c\/ar u c->m<=c):
 Ret zB 65 [i7 r s t u] k fun v C=>Gr k C/\bW C m v r:=by
 have S:=Si G;refine aa (n:=20) (rs:=[.tmp 2]) rfl Tryz.e65 rfl rfl rfl (lbt rfl) ?_;simp only [BZ,i7,seval];refine ac (bR (by intro x e;cases e)) S ?_;clear S;intro h b S I;simp only [ae]at S;simp only [BZ,Xd,Xl,Xo,S.lds (b:=b) (o:=0) (n:=4) m0 (lbt rfl),seval];refine ac (bR (by intro x e;cases e)) S ?_;clear S;intro h p S q;simp only [ae]at S;simp only [BZ,seval];have J:=S.fr.n;have z:=(S.row (b:=p) m0).lt S.ok;refine step_ret (of1_ok S.ok d (S.row m1) (w.gr S.gr) of2_key (fun a A=>(d.arcs a A).1)) ?_;intro D h ⟨g,f⟩;replace S:=S.call g;clear g;simp only [BZ,seval];have K:=S.fr.n;have B:=(S.row (b:=p) m0).lt S.ok;refine step_ret (of1_ok S.ok d (S.row m1) (w.gr S.gr) of3_key (fun a A=>(d.arcs a A).2.1)) ?_;intro v h ⟨g,l⟩;replace S:=S.call g;replace f:=f.gr g;clear g;have L:Fl v:=by obtain⟨_,_,rfl,_⟩:=l;exact ce
 have M:Fl D:=by obtain⟨_,_,rfl,_⟩:=f;exact ce
 simp only [BZ,seval];have E: ∀c,c=p->c<_:=fun c e=>e▸z;have F: ∀c,c=p->c<_:=fun c e=>e▸B;refine aw (aq S (i:=0) rfl ?_ ?_ ?_ ono) ?_
 . exact(by simp only [X5])
 . exact(by assumption)
 . exact Xb (lbt rfl)
 clear S;rintro h ⟨S,j⟩;replace f:=f.mo j E;replace l:=l.mo j F;clear j;simp only [LC,ae,lay,Xy,Xz,seval]at S;simp only [BZ,seval];refine aw (aq S (i:=0) rfl ?_ ?_ ?_ ono) ?_
 . exact(by simp only [X5])
 . exact(by assumption)
 . exact Xb (lbt rfl)
 clear S;rintro h ⟨S,j⟩;replace f:=f.mo j E;replace l:=l.mo j F;clear j;simp only [LC,ae,lay,Xy,Xz,seval]at S;simp only [BZ,ab,seval];exact⟨S.gr,p,s,t,u,D,v,rfl,S.row m0,w.gr S.gr,f.low (XD y J),l.low (XD y K),XD y q,H⟩
theorem yM{a:Hp}(q:a.t.Sized a.n){f:Gra}(d:fI f){i j k:Value}(l:dh a i j k f):
 Ret zB 21 [i7 f i j k] a fun r p=> ∃v,r=.tuple #[v,.nilIface]/\Gr a p/\bW p a.n v f:=by
 have S:=Si q;refine aa (n:=17) (rs:=[.tmp 2,.tmp 3]) rfl Tryz.e21 rfl rfl rfl (lbt rfl) ?_;simp only [BZ,i7,seval];refine ac (bR (by intro x e;cases e)) S ?_;clear S;intro h b S s;simp only [ae]at S;simp only [BZ,Xd,Xl,Xo,S.lds (b:=b) (o:=0) (n:=4) m0 (lbt rfl),seval];refine ah (Bi S.ok d (l.gr S.gr)) ?_;intro h g;replace S:=S.call g;clear g;simp only [BZ,Xd,Xl,Xo,S.lds (b:=b) (o:=0) (n:=4) m0 (lbt rfl),seval];have t:=S.fr.n;refine step_ret (own_ok S.ok d (l.gr S.gr)) ?_;intro v h ⟨g,vx',vy',va',u,ga',hz,_⟩;replace S:=S.call g;clear g;subst u;simp only [BZ,seval];refine step_ret (of_ok S.ok d ga' (m:=a.n) S.fr.n (fun c w=>XD t (hz c w))) ?_;intro v h ⟨g,R⟩;replace S:=S.call g;clear g;simp only [BZ,ab,seval];exact⟨_,rfl,S.gr,R⟩
theorem netRaw_ok{j:Hp}(F:j.t.Sized j.n){k:Gra}(s:fI k){G A:Nat}(H:bW j G (ptrTo A) k):
 Ret zB 32 [ptrTo A] j fun r q=>Gr j q/\ ∃l m f,r=i7 k l m f/\dh q l m f k/\(∀c,ar l c\/ar m c\/ar f c->j.n<=c)/\WrK q 3 cE f k.arcs/\ ∀c,ar f c-> ¬ar l c/\ ¬ar m c:=by
 have S:=Si F;obtain⟨b,l,m,f,P,Q,e,r,I,_⟩:=H.ex;cases e;have J:=r.load (o:=0) (n:=4) (lbt rfl);refine aa (n:=11) (rs:=[.cell 2 37]) rfl Tryz.e32 rfl rfl rfl (lbt rfl) ?_;simp only [BZ];refine ac au S ?_;clear S;intro h B S C;simp only [BZ,S.old J (fun h=>h),Xd,Xl,Xo,seval];have K:=S.fr.n;have D:Ret zB 66 [i7 k l m f] h _:=own_ok S.ok s (I.gr S.gr);unfold i7 at D;refine step_ret D ?_;rintro v h ⟨g,t,u,y,rfl,a,z,w,d⟩;have L:=a.X.fl;have M:=a.Y.fl;have N:=a.A.fl;have O:=(S.row (b:=B) m0).lt S.ok;replace S:=S.call g;simp only [BZ,seval];refine aw (S.store (i:=0) rfl Tryz.t37.2.1 (by intro x e;cases e) rfl (by simp only [ae,List.all_cons,List.all_nil,L.2.1,M.2.1,N.2.1,XK];rfl) (lbt rfl) ono) ?_;clear S;rintro q ⟨S,E⟩;simp only [LC,ae,lay,Xy,Xz,seval]at S;simp only [BZ,ab];refine(fd (by decide) (by simp only [aS,al,seval];exact gD Tryz.t37.1 Tryz.t37.2.1 (S.lds (b:=B) (o:=0) (n:=4) m0 (lbt rfl)))).2 (gR.2 ?_);exact⟨S.gr,t,u,y,rfl,a.mo E (fun c p e=>by have:=z c p;omega),fun c p=>XD K (z c p),w.mo E (fun c p e=>by have:=z c (.inr (.inr p));omega),d⟩
def pos:List Int->Int->Option Nat
 | [],_=>none|y::a,x=>if x=y then some 0 else(pos a x).map (· +1)
def jH:Nat->List Int->List (Value×Value×Nat)
 |_,[]=>[]|o,x::a=>(.int .i64 x,.int .i64 (o:Nat),o)::jH (o+1) a
theorem ents_app(o:Nat)(l:List Int)(x:Int):jH o (l++[x])=jH o l++[(.int .i64 x,.int .i64 ((o+l.length:Nat):Int),o+l.length)]:=by
 induction l generalizing o with
 |nil=>rfl| cons y a b=>show _::jH (o+1) (a++[x])=_::(jH (o+1) a++_);rw [b,Xv,show o+1+a.length=o+(a.length+1) by omega]
theorem ents_len(o:Nat)(l:List Int):(jH o l).length=l.length:=by
 induction l generalizing o with
 |nil=>rfl|cons y a b=>show(jH (o+1) a).length+1=_;rw [b];rfl
theorem keq_int{x y:Int}:cd (.int .i64 x) (.int .i64 y)=some (decide (x=y)):=by show some (iI x y)=_;congr 1;rw [mY]
theorem xS(o:Nat)(l:List Int)(x:Int):a9 (.int .i64 x) (jH o l)=some ((pos l x).map fun i=>(.int .i64 ((o+i:Nat):Int),o+i)):=by
 induction l generalizing o with
 |nil=>rfl| cons y a b=>
   show(match cd (.int .i64 x) (.int .i64 y)with|none=>none|some true=>some (some (Value.int .i64 (o:Nat),o))|some false=>a9 (.int .i64 x) (jH (o+1) a))=_;rw [keq_int,pos];by_cases h:x=y
   . rw [if_pos h,decide_eq_true h];rfl
   . rw [if_neg h,decide_eq_false h];show a9 (.int .i64 x) (jH (o+1) a)=_;rw [b];cases pos a x with
     |none=>rfl|some i=>simp;omega
theorem St.mput{M:Nat->Prop}{d h:Hp}{L:List (Nat×Ob)}{G:List GL}(S:St M d h L G){E:Env}{t kt el:TypeId}{i b c:Nat}{a:List (Value×Value×Nat)}{k v:Value}(e:L[i]? =some (b,.map a c))(j:E.und t=some (.map kt el))(hf:bE E kt k=true)(l:a9 k a=some none):
 ∃f,dY E h t (.map (some b)) k v=some f/\St M d f (L.set i (b,.map (a++[(k,v,c)]) (c+1))) G:=by
 have g:h.get b=some (.map a c):=(S.own _ (Xc e)).2;refine⟨h.put b (.map (a++[(k,v,c)]) (c+1)),?_,S.put e ?_⟩
 . simp only [dY,jy,j,hf,cond_true,g,l]
 . show(h.put b _).get b=_;rw [Hp.get_put,if_pos ⟨rfl,by rw [g];rfl⟩]
theorem Cp{E:Env}{h:Hp}{t kt el:TypeId}{b c:Nat}{l:List Int}{x:Int}(a:E.und t=some (.map kt el))(d:E.und kt=some (.int .i64))(e:E.zeroV el=some (.int .i64 0))(f:h.get b=some (.map (jH 0 l) c)):
 dC E h t (.map (some b)) (.int .i64 x) true=some (match pos l x with|some i=>.tuple #[.int .i64 (i:Nat),.bool true]|none=>.tuple #[.int .i64 0,.bool false]):=by
 have hf:bE E kt (.int .i64 x)=true:=by simp only [bE,d];rfl
 simp only [dC,a,hf,cond_true,f,xS,e];cases pos l x with
 |none=>rfl|some i=>simp
def oH(ks:List Int)(x:Int):Nat:=match pos ks x with|some i=>i|none=>ks.length
def ol(ks:List Int)(x:Int):List Int:=match pos ks x with|some _=>ks|none=>ks++[x]
def norm:List Int->List Int->List Int
 |_,[]=>[]|a,x::b=>(oH a x:Int)::norm (ol a x) b
theorem name_ok{a:Hp}(l:a.t.Sized a.n){f b:Nat}{ks:List Int}{x:Int}(m:Row a f [.map (some b)] 1)(c:a.get b=some (.map (jH 0 ks) ks.length)):
 Ret zB 196 [.int .i64 x,ptrTo f] a fun v g=>Mo (· =b) a g/\v=.int .i64 (oH ks x)/\g.get b=some (.map (jH 0 (ol ks x)) (ol ks x).length):=by
 have S:=St.init1 l (o:=.map (jH 0 ks) ks.length) c;have j:=m.load1 (o:=0) rfl;have d:=Cp (x:=x) Tryz.t213.1 Tryz.t3.1 (by kernel_rfl) c;have k:nS (some (.map 3 3)) a (.map (some b))=some (.val (.int .i64 (jH 0 ks).length),a):=lenq_map c;rw [ents_len]at k;unfold oH ol;cases e:pos ks x with
 | some i=>rw [e]at d;refine aa (n:=20) (rs:=[.tmp 3]) rfl Tryz.e196 rfl rfl rfl (lbt rfl) ?_;simp only [BZ,ab,j,d,seval];exact⟨S.fr,c⟩| none=>rw [e]at d;refine aa (n:=20) (rs:=[.tmp 3]) rfl Tryz.e196 rfl rfl rfl (lbt rfl) ?_;simp only [BZ,j,d,k,seval];refine aw (S.mput (i:=0) rfl Tryz.t213.1 (by simp only [bE,Tryz.t3.1];rfl) (by rw [xS,e];rfl)) ?_;clear S;intro h S;simp only [LC]at S;simp only [BZ,ab,seval];have p:h.get b=some (.map (jH 0 ks++[(.int .i64 x,.int .i64 ks.length,ks.length)]) (ks.length+1)):=(S.own _ m0).2;refine⟨S.fr,?_⟩;rw [ents_app,Xa,Xk];exact p
theorem namer_ok{a:Hp}(g:a.t.Sized a.n):Ret zB 146 [] a fun v f=>Gr a f/\ ∃b c,v=.func (.func 196) #[] #[ptrTo b]/\a.n<=b/\a.n<=c/\Row f b [.map (some c)] 1/\f.get c=some (.map [] 0):=by
 have S:=Si g;refine aa (n:=4) (rs:=[.tmp 0]) rfl Tryz.e146 rfl rfl rfl (lbt rfl) ?_;simp only [BZ];refine ac uC S ?_;clear S;intro h c S d;simp only [BZ];refine ac au S ?_;clear S;intro h b S e;simp only [BZ,seval];refine aw (aq S (i:=0) rfl ?_ ?_ ?_ ono) ?_
 . exact(by simp only [X5])
 . exact(by exact fl_map)
 . exact Xb (lbt rfl)
 clear S;rintro h ⟨S,j⟩;clear j;simp only [LC,ae,lay,Xy,Xz,seval]at S;simp only [BZ,ab,seval];exact⟨S.gr,b,c,rfl,e,d,S.row m0,(S.own _ m1).2⟩
theorem each_ok{d:Hp}(J:d.t.Sized d.n){y g:Nat}{ks l:List Int}{v:Value}(F:Row d y [.map (some g)] 1)(z:d.get g=some (.map (jH 0 ks) ks.length))(A:ay d 1 (encI .i64) v l)(O:l.length<1000):
 Ret zB 145 [v,.func (.func 196) #[] #[ptrTo y]] d fun r G=>Mo (· =g) d G/\ay G 1 (encI .i64) r (norm ks l)/\ ∀c,ar r c->d.n<=c:=by
 have S:=St.init1 J (o:=.map (jH 0 ks) ks.length) z;have B: ∀c,ar v c-> ¬c=g:=by
  rintro c q rfl;rcases A with⟨rfl,_⟩|⟨b,o,s,P,rfl,_,K⟩
  . exact q.elim
  . have:b=c:=q;subst this;simp [Hp.load,z]at K
 have C: ¬y=g:=by rintro rfl;obtain⟨t,el,e,_⟩:=F;rw [z]at e;cases e
 refine aa (n:=21) (rs:=[.tmp 4]) rfl Tryz.e145 rfl rfl rfl (lbt rfl) ?_;simp only [BZ,A.lenq,seval];replace S:=S.nilG (k:=1);refine az (fun(i:Nat) p h=>i<=l.length/\ ∃(a done:List Int) (D:Value),norm ks l=done++norm a (l.drop i)/\done.length=i/\St (· =g) d h [(g,.map (jH 0 a) a.length)] [(D,1,ints done)]/\
  p 1=.func (.func 196) #[] #[ptrTo y]/\p 4=D/\p 7=v/\p 8=.int .i64 l.length/\p 9=.int .i64 i) (fun i=>l.length-i) ?_ 0 _ _ ?_
 . clear S;intro i L p h ⟨hi,a,done,D,hn,hd,S,r1,r4,r7,r8,r9⟩;by_cases hlt:i<l.length
   . obtain⟨c,o,u,x⟩:=(A.mo S.fr B).ix (kd:=.i64) (aH .i64) hlt;have w:ag .i64 ((i:Int)+1)=((i+1:Nat):Int):=(by rw [wrap64]<;>omega);simp only [BZ,r1,r4,r7,r8,r9,an,hlt,u,x,encI,seval];refine step_ret (name_ok S.ok (S.fr.has (o:=.row _ 1) F C) (S.own _ m0).2) ?_;rintro r h ⟨f,rfl,H⟩;replace S:=S.call1 (i:=0) rfl f (o':=.map _ _) H;simp only [LC]at S;simp only [BZ,seval];refine ac (bg (by exact Tryz.t38.1) (by exact X7) (by decide) (by rfl)) S ?_;clear S;intro h M S I;simp only [LC,aU,bD,ae,XB,Xk,Xj,XG,seval]at S;simp only [BZ,seval];refine dX (S.grow (j:=0) (m:=1) (new:=ints [(oH a l[i]:Int)]) rfl Tryz.t38.1 X7 (by decide) Tryz.t38.2.2.2.2.2 (by simp only [aC];rw [S.lds (b:=M) (o:=0) (n:=1*1) m0 (lbt rfl)];rfl) rfl (by decide) rfl (by rw [bQ,bQ];simp;omega)) ?_;clear S f H x;rintro h N S;simp only [LC]at S;replace S:=S.drop1;rw [<-gX]at S;simp only [BZ,r9,w,seval];refine L (i+1) _ _ (by omega) ⟨by omega,_,_,_,?_,?_,S,by simp [am,r1,al,r7,r8]⟩
     . rw [hn,X2 hlt,norm,Xs];rfl
     . simp [hd]
   . have E:i=l.length:=(by omega);simp only [BZ,ab,r4,r8,r9,an,hlt,seval];have e:norm ks l=done:=(by rw [hn,E,List.drop_length,norm,Xq]);rw [e];exact⟨S.fr,(S.gown _ m0).1.sl rfl (aH .i64) (by decide),fun c q=>((S.gblk m0 q).1).elim (fun h=>h) (fun h=>((S.gblk m0 q).2 (by simp [h])).elim)⟩
 . exact⟨Xe _,ks,[],_,rfl,rfl,S,by simp [am,cq,cV,al]⟩
end Go.Ab
end
section
namespace Go.Ab
structure Hd where
 id:Nat
 key:Int
deriving Inhabited,DecidableEq
def hle(a b:Hd):Prop:=a.key<b.key\/(a.key=b.key/\a.id<=b.id)
def hlt(a b:Hd):Prop:=a.key<b.key\/(a.key=b.key/\a.id<b.id)
instance (a b:Hd):Decidable (hlt a b):=by unfold hlt;infer_instance
theorem wG{a b:Hd}(h: ¬hlt a b):hle b a:=by unfold hlt at h;unfold hle;omega
theorem tu{a b:Hd}(h:hlt a b):hle a b:=by unfold hlt at h;unfold hle;omega
theorem kP{a b c:Hd}(h:hle a b)(k:hle b c):hle a c:=by unfold hle at*;omega
theorem v8(a:Hd):hle a a:=by unfold hle;omega
def sw(l:List Hd)(i k:Nat):List Hd:=(l.set i (l.getD k default)).set k (l.getD i default)
theorem iA(l:List Hd)(i k:Nat):(sw l i k).length=l.length:=by simp [sw]
theorem qo(l:List Hd)(i j:Nat)(x:Hd):(l.set i x).getD j default=if i=j/\j<l.length then x else l.getD j default:=by grind
theorem i9(l:List Hd){i k:Nat}(a:i<l.length)(b:k<l.length)(j:Nat):(sw l i k).getD j default=if j=k then l.getD i default else if j=i then l.getD k default else l.getD j default:=by unfold sw;grind
theorem uD(l:List Hd){i k:Nat}(a:i<l.length)(b:k<l.length):(sw l i k).Perm l:=by grind[set,List.set_set_perm,sw,default]
def mM(l:List Hd):Prop:= ∀j,0<j->j<l.length->hle (l.getD ((j-1)/4) default) (l.getD j default)
def sa(l:List Hd)(i:Nat):Prop:=(∀j,0<j->j<l.length->j≠i->hle (l.getD ((j-1)/4) default) (l.getD j default))/\ ∀j,0<j->j<l.length->(j-1)/4=i->0<i->hle (l.getD ((i-1)/4) default) (l.getD j default)
theorem up_done{l:List Hd}{i:Nat}(h:sa l i)(c:i=0\/hle (l.getD ((i-1)/4) default) (l.getD i default)):mM l:=by
 intro j a b;by_cases e:j=i
 . grind
 . exact h.1 j a b e
theorem up_step{l:List Hd}{i:Nat}(e:i<l.length)(h:sa l i)(o:0<i)(m:hlt (l.getD i default) (l.getD ((i-1)/4) default)):sa (sw l i ((i-1)/4)) ((i-1)/4):=by
 have c:(i-1)/4<l.length:=by omega
 generalize f:(i-1)/4=p at*
 have t:p<i:=by omega
 refine⟨fun j d a n=>?_,fun j d a n q=>?_⟩
 . rw [iA]at a;rw [i9 l e c,i9 l e c,if_neg n];by_cases b:j=i
   . subst b;rw [f,if_pos rfl,if_pos rfl];exact tu m
   . rw [if_neg b];by_cases g:(j-1)/4=p
     . rw [if_pos g];have:=h.1 j d a b;rw [g]at this;exact kP (tu m) this
     . rw [if_neg g];by_cases k:(j-1)/4=i
       . rw [if_pos k];have:=h.2 j d a k o;grind
       . rw [if_neg k];exact h.1 j d a b
 . rw [iA]at a;have r: ¬(p-1)/4=p:=(by omega);have s: ¬(p-1)/4=i:=(by omega);rw [i9 l e c,i9 l e c,if_neg r,if_neg s,if_neg (show¬j=p by omega)];have u:=h.1 p q c (by omega);by_cases b:j=i
   . grind
   . rw [if_neg b];have:=h.1 j d a b;grind[kP]
def um(l:List Hd)(i:Nat):Prop:=(∀j,0<j->j<l.length->(j-1)/4≠i->hle (l.getD ((j-1)/4) default) (l.getD j default))/\ ∀j,0<j->j<l.length->(j-1)/4=i->0<i->hle (l.getD ((i-1)/4) default) (l.getD j default)
theorem dn_done{l:List Hd}{i:Nat}(h:um l i)(c: ∀j,0<j->j<l.length->(j-1)/4=i->hle (l.getD i default) (l.getD j default)):mM l:=by
 intro j a b;by_cases e:(j-1)/4=i
 . grind
 . exact h.1 j a b e
theorem dn_step{l:List Hd}{i b:Nat}(h:um l i)(o:0<b)(a:b<l.length)(m:(b-1)/4=i)(p:hlt (l.getD b default) (l.getD i default))(q: ∀j,0<j->j<l.length->(j-1)/4=i->hle (l.getD b default) (l.getD j default)):um (sw l i b) b:=by
 have d:i<l.length:=by omega
 refine⟨fun j e c f=>?_,fun j e c f _=>?_⟩
 . rw [iA]at c;rw [i9 l d a,i9 l d a,if_neg f];by_cases g:(j-1)/4=i
   . rw [if_pos g];by_cases k:j=b
     . rw [if_pos k];exact tu p
     grind
   . rw [if_neg g];by_cases k:j=b
     . omega
     . rw [if_neg k];by_cases n:j=i
       . subst n;rw [if_pos rfl];exact h.2 b o a m e
       . rw [if_neg n];exact h.1 j e c g
 . rw [iA]at c;rw [i9 l d a,i9 l d a,m,if_neg (show¬i=b by omega),if_pos rfl,if_neg (show¬j=b by omega),if_neg (show¬j=i by omega)];have:=h.1 j e c (by omega);rwa [f]at this
theorem heap_min{l:List Hd}(h:mM l): ∀j,j<l.length->hle (l.getD 0 default) (l.getD j default):=by
 intro j
 induction j using Nat.strongRecOn with
 | _ j a=>
   intro b;by_cases e:j=0
   . subst e;exact v8 _
   . exact kP (a ((j-1)/4) (by omega) (by omega)) (h j (by omega) b)
theorem oF(l m:List Hd){j:Nat}(a:j<l.length):(l++m).getD j default=l.getD j default:=by grind
theorem zu{l:List Hd}(h:mM l)(x:Hd):sa (l++[x]) l.length:=by
 refine⟨fun j a b c=>?_,fun j a b c _=>?_⟩
 . simp at b;rw [oF l _ (by omega),oF l _ (by omega)];exact h j a (by omega)
 grind
theorem CJ{l:List Hd}(h:mM l){i:Nat}{x:Hd}(k:hle x (l.getD i default)):sa (l.set i x) i:=by
 refine⟨fun j b a c=>?_,fun j b a c f=>?_⟩
 . rw [X9]at a;rw [qo,qo,if_neg (show¬(i=j/\_)from fun e=>c e.1.symm)]
   split
   . rename_i e;have:=h j b a;grind[kP]
   . exact h j b a
 . rw [X9]at a;rw [qo,qo,if_neg (show¬(i=j/\_) by omega),if_neg (show¬(i=(i-1)/4/\_) by omega)];have g:=h i f (by omega);have d:=h j b a;rw [c]at d;exact kP g d
theorem getD_take(l:List Hd){n j:Nat}(a:j<n):(l.take n).getD j default=l.getD j default:=by grind
theorem heap_pop{l:List Hd}(h:mM l)(d:0<l.length):um ((sw l 0 (l.length-1)).take (l.length-1)) 0:=by
 refine⟨fun j a b c=>?_,fun j a b c e=>?_⟩
 . rw [Xh,iA]at b;rw [getD_take _ (by omega),getD_take _ (by omega),i9 l (by omega) (by omega),i9 l (by omega) (by omega),if_neg (by omega),if_neg (by omega),if_neg (by omega),if_neg (by omega)];exact h j a (by omega)
 . omega
def iD(l:List Hd)(K:Nat->Option Int):Prop:=(l.map Hd.id).Nodup/\ ∀v k,K v=some k↔⟨v,k⟩∈l
def eV(K:Nat->Option Int)(v:Nat)(x:Option Int):Nat->Option Int:=fun u=>if u=v then x else K u
theorem iD.perm{l m:List Hd}{K:Nat->Option Int}(h:iD l K)(p:m.Perm l):iD m K:=
 ⟨(p.map Hd.id).nodup_iff.2 h.1,fun v k=>by rw [h.2];grind⟩
theorem iD.free{l:List Hd}{K:Nat->Option Int}(h:iD l K){v:Nat}(c:K v=none):v∉l.map Hd.id:=by intro a;obtain⟨x,b,rfl⟩:=List.mem_map.1 a;have:=(h.2 x.id x.key).2 b;grind
theorem iD.push{l:List Hd}{K:Nat->Option Int}(h:iD l K){v:Nat}(d:K v=none)(k:Int):iD (l++[⟨v,k⟩]) (eV K v (some k)):=by
 refine⟨?_,fun u x=>?_⟩
 . rw [XT,XZ];exact⟨h.1,by simp,fun a f b g e=>h.free d (by grind)⟩
 . unfold eV;by_cases e:u=v
   . subst e;rw [if_pos rfl,List.mem_append];constructor
     . grind
     . rintro(c|c)
       . have:=(h.2 u x).2 c;grind
       grind
   . rw [if_neg e,List.mem_append,h.2];grind
theorem nodup_idx{l:List Hd}(h:(l.map Hd.id).Nodup){i j:Nat}(a:i<l.length)(b:j<l.length)(e:(l.getD i default).id=(l.getD j default).id):i=j:=by refine qL h (x:=(l.getD i default).id) (by simp [a]) ?_;grind
theorem iD.lower{l:List Hd}{K:Nat->Option Int}(h:iD l K){i:Nat}(f:i<l.length)(k:Int):iD (l.set i ⟨(l.getD i default).id,k⟩) (eV K (l.getD i default).id (some k)):=by
 have g:(l.set i ⟨(l.getD i default).id,k⟩).map Hd.id=l.map Hd.id:=by rw [List.map_set];refine XO fun j=>?_;grind
 refine⟨by rw [g];exact h.1,fun u x=>?_⟩;unfold eV;by_cases e:u=(l.getD i default).id
 . rw [if_pos e];constructor
   . intro m;cases m;subst e;exact List.mem_iff_getElem?.2 ⟨i,by simp [f]⟩
   . intro b;obtain⟨j,a⟩:=List.mem_iff_getElem?.1 b;rw [XY]at a
     split at a
     . cases a;rfl
     . rename_i c;have d:=(List.getElem?_eq_some_iff.1 a).1;exact absurd (nodup_idx h.1 f d (by grind)) c
 . rw [if_neg e,h.2];constructor
   . intro b;obtain⟨j,a⟩:=List.mem_iff_getElem?.1 b;refine List.mem_iff_getElem?.2 ⟨j,?_⟩;grind
   grind
theorem iD.pop{l:List Hd}{K:Nat->Option Int}(h:iD l K)(b:0<l.length):iD ((sw l 0 (l.length-1)).take (l.length-1)) (eV K (l.getD 0 default).id none):=by
 have p:=uD l (i:=0) (k:=l.length-1) b (by omega);have c:=h.perm p;have e:sw l 0 (l.length-1)=(sw l 0 (l.length-1)).take (l.length-1)++[l.getD 0 default]:=by refine XO fun j=>?_;have g:=i9 l (i:=0) (k:=l.length-1) b (by omega) (l.length-1);rw [if_pos rfl]at g;grind[iA,List.getElem?_append_left,List.getElem?_take_of_lt,List.getElem?_append_right,Yd]
 generalize(sw l 0 (l.length-1)).take (l.length-1)=m at*
 generalize l.getD 0 default=x at*
 rw [e]at c;obtain⟨a,o⟩:=c;rw [XT,XZ]at a;refine⟨a.1,fun v k=>?_⟩;unfold eV;by_cases d:v=x.id
 . rw [if_pos d];constructor
   . intro h;cases h
   . intro n;exact absurd d (a.2.2 v (List.mem_map_of_mem (f:=Hd.id) n) x.id (by simp))
 grind
theorem iD.at{l:List Hd}{K:Nat->Option Int}(h:iD l K){i:Nat}(a:i<l.length):K (l.getD i default).id=some (l.getD i default).key:=
 (h.2 _ _).2 (List.mem_iff_getElem?.2 ⟨i,by simp [a]⟩)
theorem iD.idx{l:List Hd}{K:Nat->Option Int}(h:iD l K){v:Nat}{k:Int}(a:K v=some k): ∃i,i<l.length/\l.getD i default=⟨v,k⟩:=by obtain⟨i,b⟩:=List.mem_iff_getElem?.1 ((h.2 v k).1 a);grind
theorem iD.nil{K:Nat->Option Int}(h:iD [] K)(v:Nat):K v=none:=by
 cases a:K v with
 |none=>rfl|some k=>have:=(h.2 v k).1 a;cases this
theorem cont_nil:iD [] (fun _=>none):=⟨.nil,fun v k=>by grind⟩
end Go.Ab

end
section
namespace Go.Ab
def FAR:Nat:=72057594037927936
def WMAX:Nat:=2147483647
theorem FAR_eq:FAR=72057594037927936:=rfl
theorem WMAX_eq:WMAX=2147483647:=rfl
inductive Wk(B:List Arc)(s:Nat):Nat->Nat->Prop where
 |nil:Wk B s s 0
 |snoc {w:Nat} {a:Arc}:a∈B->Wk B s a.s w->Wk B s a.t (w+a.w)
def IsD(B:List Arc)(s v x:Nat):Prop:=(x<FAR/\Wk B s v x/\ ∀w,Wk B s v w->x<=w)\/(x=FAR/\ ∀w,¬Wk B s v w)
theorem IsD.uniq{B:List Arc}{s v x y:Nat}(h:IsD B s v x)(k:IsD B s v y):x=y:=by
 rcases h with⟨a,b,c⟩|⟨a,b⟩<;>rcases k with⟨d,e,f⟩|⟨d,e⟩
 . have:=c _ e;have:=f _ b;omega
 . exact absurd b (e _)
 . exact absurd e (b _)
 . omega
theorem IsD.le{B:List Arc}{s v x:Nat}(h:IsD B s v x):x<=FAR:=by rcases h with⟨a,_,_⟩|⟨a,_⟩<;>omega
theorem IsD.arc{B:List Arc}{s x y:Nat}{a:Arc}(c:a∈B)(f:IsD B s a.s x)(d:IsD B s a.t y):y<=x+a.w:=by
 rcases f with⟨g,b,j⟩|⟨g,b⟩
 . rcases d with⟨h,e,i⟩|⟨h,e⟩
   . exact i _ (.snoc c b)
   . exact absurd (.snoc c b) (e _)
 . have:=d.le;omega
theorem ww: ∀(N:Nat) (l:List Nat),l.Nodup->(∀x∈l,x<N)->l.length<=N
 | 0,l,_,h=>by
   cases l with
   |nil=>simp|cons x l=>have:=h x (by simp);omega
 | N+1,l,b,h=>by
   have f:=ww N (l.erase N) (b.erase N) (fun x c=>by
    have d:=h x (List.mem_of_mem_erase c);have g:x≠N:=fun e=>(by subst e;exact(List.Nodup.not_mem_erase b) c);omega)
   have d:=List.length_erase (a:=N) (l:=l)
   split at d<;>omega

section
variable{B:List Arc}{s N:Nat}{O:List Nat}{D:Nat->Nat}{K:Nat->Option Int}{ex:Arc->Prop}
structure Dj(B:List Arc)(s N:Nat)(O:List Nat)(D:Nat->Nat)(K:Nat->Option Int)(ex:Arc->Prop):Prop where
 i1: ∀v,v∈O->K v=none
 i2: ∀v∈O,Wk B s v (D v)/\(∀w,Wk B s v w->D v<=w)/\D v<=O.length*WMAX
 i2f: ∀v,v∉O->D v=FAR
 i3: ∀v k,K v=some k->v<N/\ ∃n:Nat,k=n/\Wk B s v n/\n<=O.length*WMAX
 i4: ∀a∈B,a.s∈O-> ¬ex a->a.t∈O\/ ∃k:Int,K a.t=some k/\k<=D a.s+a.w
 i5:s∈O\/K s=some 0
 nd:O.Nodup
 lt: ∀v∈O,v<N
theorem Dj.len(d:Dj B s N O D K ex):O.length<=N:=ww N O d.nd d.lt
theorem dj_init(b:s<N):Dj B s N [] (fun _=>FAR) (eV (fun _=>none) s (some 0)) (fun _=>False):=by
 refine⟨fun v h=>(by cases h),fun v h=>(by cases h),fun v _=>rfl,fun v k h=>?_,fun a _ h=>(by cases h),.inr (by simp [eV]),.nil,fun v h=>(by cases h)⟩;unfold eV at h
 split at h
 . rename_i e;cases h;subst e;exact⟨b,0,rfl,.nil,by simp⟩
 . cases h
theorem Dj.front(d:Dj B s N O D K (fun _=>False)){x w:Nat}(h:Wk B s x w):x∈O\/ ∃y k,K y=some k/\k<=(w:Int):=by
 induction h with
 |nil=>exact d.i5.imp (fun h=>h) (fun h=>⟨_,_,h,by omega⟩)
 | @snoc w a e f b=>
   rcases b with b|⟨y,k,c,g⟩
   . rcases d.i4 a e b (fun h=>h)with h|⟨k,c,g⟩
     . exact .inl h
     . have:=(d.i2 _ b).2.1 _ f;exact .inr ⟨_,k,c,by omega⟩
   . exact .inr ⟨y,k,c,by omega⟩
theorem Dj.pop(d:Dj B s N O D K (fun _=>False)){v:Nat}{n:Nat}(q:K v=some (n:Int))(A: ∀u k,K u=some k->(n:Int)<=k):
 Dj B s N (O++[v]) (fun u=>if u=v then n else D u) (eV K v none) (fun a=>a.s=v)/\v∉O/\v<N/\n<=O.length*WMAX:=by
 have g:v∉O:=fun h=>by have:=d.i1 v h;rw [q]at this;cases this
 obtain⟨i,C,e,E,l⟩:=d.i3 v _ q;have e:n=C:=by omega
 subst e;have r:(O++[v]).length*WMAX=O.length*WMAX+WMAX:=by rw [Xa,Yb,Yi]
 refine⟨⟨fun u f=>?_,fun u f=>?_,fun u f=>?_,fun u k f=>?_,fun a o t x=>?_,?_,?_,fun u f=>?_⟩,g,i,l⟩
 . unfold eV;by_cases e:u=v
   . rw [if_pos e]
   . rw [if_neg e];simp [e]at f;exact d.i1 u f
 . rw [r];by_cases e:u=v
   . subst e;simp only [if_true];refine⟨E,fun w h=>?_,by omega⟩;rcases d.front h with j|⟨y,k,j,z⟩
     . exact absurd j g
     . have:=A y k j;omega
   . simp only [e,if_false];simp [e]at f;obtain⟨a,b,c⟩:=d.i2 u f;exact⟨a,b,by omega⟩
 . simp at f;simp only [f.2,if_false];exact d.i2f u f.1
 . unfold eV at f
   split at f
   . cases f
   . obtain⟨a,m,b,c,e⟩:=d.i3 u k f;exact⟨a,m,b,c,by rw [r];omega⟩
 . simp [x]at t;have p: ¬a.s=v:=x;simp only [p,if_false];rcases d.i4 a o t (fun h=>h)with h|⟨k,j,z⟩
   . exact .inl (by simp [h])
   . by_cases e:a.t=v
     . exact .inl (by simp [e])
     . exact .inr ⟨k,by unfold eV;rw [if_neg e];exact j,z⟩
 . rcases d.i5 with h|h
   . exact .inl (by simp [h])
   . by_cases e:s=v
     . exact .inl (by simp [e])
     . exact .inr (by unfold eV;rw [if_neg e];exact h)
 . rw [XZ];exact⟨d.nd,by simp,fun a o b l e=>g (by simp at l;subst l;subst e;exact o)⟩
 . rcases List.mem_append.1 f with h|h
   . exact d.lt u h
   . simp at h;subst h;exact i
def jr(O:List Nat)(K:Nat->Option Int)(u:Nat)(x:Int):Nat->Option Int:=if u∈O then K else match K u with
 |some k=>if k<=x then K else eV K u (some x)
 |none=>eV K u (some x)
theorem Dj.relaxed (d:Dj B s N O D K ex) {ex':Arc->Prop} {a:Arc} (t:a∈B) (u:a.s∈O) (w:a.t<N) (m:D a.s+a.w<=O.length*WMAX) (x: ∀b∈B,¬ex' b-> ¬ex b\/b=a):
 Dj B s N O D (jr O K a.t ((D a.s+a.w:Nat):Int)) ex':=by
 have f: ∀i,(∀v,v∈O->i v=K v)->(∀v k,i v=some k->K v=some k\/(v=a.t/\k=((D a.s+a.w:Nat):Int)))->(∀v k,K v=some k-> ∃j,i v=some j/\j<=k)->(a.t∈O\/ ∃k:Int,i a.t=some k/\k<=D a.s+a.w)->Dj B s N O D i ex':=by
  intro i y q r z;refine⟨fun v c=>by rw [y v c];exact d.i1 v c,d.i2,d.i2f,fun v k g=>?_,fun b m n o=>?_,?_,d.nd,d.lt⟩
  . rcases q v k g with h|⟨rfl,rfl⟩
    . exact d.i3 v k h
    . exact⟨w,_,rfl,.snoc t (d.i2 _ u).1,m⟩
  . rcases x b m o with h|rfl
    . rcases d.i4 b m n h with h|⟨k,A,E⟩
      . exact .inl h
      . obtain⟨j,l,C⟩:=r _ _ A;exact .inr ⟨j,l,by omega⟩
    . exact z
  . rcases d.i5 with h|h
    . exact .inl h
    . obtain⟨j,l,C⟩:=r _ _ h;rcases q _ _ l with p|⟨p,F⟩
      . rw [h]at p;exact .inr (by rw [l,p])
      . exact .inr (by rw [l];congr 1;omega)
 unfold jr;by_cases h:a.t∈O
 . rw [if_pos h];exact f K (fun _ _=>rfl) (fun _ _ h=>.inl h) (fun v k h=>⟨k,h,by omega⟩) (.inl h)
 . rw [if_neg h];have upd:(∀k,K a.t=some k->((D a.s+a.w:Nat):Int)<=k)->Dj B s N O D (eV K a.t (some ((D a.s+a.w:Nat):Int))) ex':=fun g=>by
    refine f _ (fun v c=>?_) (fun v k c=>?_) (fun v k c=>?_) (.inr ⟨((D a.s+a.w:Nat):Int),by unfold eV;rw [if_pos rfl],by omega⟩)
    . unfold eV;rw [if_neg (fun e=>h (by subst e;exact c))]
    . unfold eV at c
      split at c
      . rename_i e;cases c;exact .inr ⟨e,rfl⟩
      . exact .inl c
    . unfold eV;by_cases e:v=a.t
      . rw [if_pos e];subst e;exact⟨_,rfl,g k c⟩
      . rw [if_neg e];exact⟨k,c,by omega⟩
   cases g:K a.t with
   |none=>simp only [];exact upd (fun k e=>by rw [g]at e;cases e)
   | some k=>
     simp only []
     split
     . rename_i hle;exact f K (fun _ _=>rfl) (fun _ _ h=>.inl h) (fun v k h=>⟨k,h,by omega⟩) (.inr ⟨k,g,by omega⟩)
     . rename_i hle;exact upd (fun j e=>by rw [g]at e;cases e;omega)
theorem Dj.done(d:Dj B s N O D K (fun _=>False))(f: ∀v,K v=none)(g:N<=12)(v:Nat):IsD B s v (D v):=by
 have j:=Xx WMAX (XD d.len g);have:=FAR_eq;have:=WMAX_eq;by_cases h:v∈O
 . obtain⟨a,b,c⟩:=d.i2 v h;exact .inl ⟨by omega,a,b⟩
 . refine .inr ⟨d.i2f v h,fun w i=>?_⟩;rcases d.front i with e|⟨y,k,e,_⟩
   . exact h e
   . rw [f]at e;cases e
end
theorem sH{A:List Arc}{f:Arc->Nat}{j v i:Nat}:i∈outs A f j v↔i<j/\f (A.getD i default)=v:=by unfold outs;rw [List.mem_filter,List.mem_range,decide_eq_true_eq]
def cZ(a:Arc):Arc:=⟨a.t,a.s,a.w⟩

structure Ls(B:List Arc)(s N:Nat)(l:Nat->Nat):Prop where
 le: ∀v,l v<=FAR
 wk: ∀v,l v=FAR\/Wk B s v (l v)
 s0:l s=0
def gK(l:Nat->Nat)(v x:Nat):Nat->Nat:=fun u=>if u=v then x else l u
theorem Ls.step{B:List Arc}{s N:Nat}{l:Nat->Nat}(h:Ls B s N l){a:Arc}(b:a∈B)(f:l a.s<FAR)(c:l a.s+a.w<l a.t):Ls B s N (gK l a.t (l a.s+a.w)):=by
 have d:=(h.wk a.s).resolve_left (by omega);refine⟨fun v=>?_,fun v=>?_,?_⟩
 . unfold gK;split
   . have:=h.le a.t;omega
   . exact h.le v
 . unfold gK;split
   . rename_i e;subst e;exact .inr (.snoc b d)
   . exact h.wk v
 . unfold gK;split
   . rename_i e;rw [<-e,h.s0]at c;omega
   . exact h.s0
end Go.Ab

end

/- Nets, cells, flags: what the functions do (part 5). -/
import Derived.Test.YtdicllcgofpggaaGreatDoorNetD
import Derived.ChangeSlices
import Derived.ChangeArms
import Derived.ChangeSame
open Go.Ab.Tryz
open Go.Ab.Tryz renaming abEnv->zB,e3E->Xv,F0->XF,e2E->YH,e23E->YP
open Nat renaming lt_of_succ_le->zM,zero_le->Xd,mul_one->Xg,zero_add->Xj,le_refl->Xk,zero_mul->Xo,one_mul->Xs,shiftRight_eq_div_pow->Xu,mod_lt->XA,lt_of_lt_of_le->XC,testBit_two_pow->XT,eq_of_testBit_eq->X4,mul_le_mul_left->X6,testBit_mod_two_pow->Yb,testBit_eq_decide_div_mod_eq->Ye,zero_lt_succ->Yg,pow_le_pow_right->Yi,mul_comm->Yj,le_trans->Yk,mul_le_mul->Yn,mul_add->Yo,lt_succ_self->Yu,succ_le_succ->Yw,le_mul_of_pos_right->Yy,testBit_two_pow_mul->Yz,min_eq_left->YB,testBit_shiftRight->YC,ble_eq_true_of_le->YF,mul_le_mul_right->YI,pow_lt_pow_right->YL,add_assoc->YM,beq_refl->YO,le_of_eq->YR,xor_zero->YT
open List renaming getD_eq_getElem?_getD->zO,range->Xa,flatMap_cons->Xc,take->Xe,drop->Xf,length_append->Xh,flatMap_nil->Xi,map_cons->Xl,length_take->Xm,drop_zero->Xn,set_cons_zero->Xp,filterMap_nil->Xq,map_congr_left->Xt,getElem?_eq_getElem->Xw,take_of_length_le->Xy,getElem?_append_right->Xz,mem_append_right->XD,map_append->XE,take_succ_cons->XG,drop_drop->XH,map_nil->XI,length_map->XJ,range_succ->XM,getElem_append_right->XO,take_zero->XP,getElem_mem->XQ,not_mem_nil->XR,flatMap_append->XS,length_set->XV,getElem?_map->XW,set_append_right->XX,getElem?_eq_none->XY,take_append_drop->XZ,ext_getElem->X2,mem_of_getElem?->X3,mem_cons->X5,drop_eq_getElem_cons->X7,getElem_of_eq->X8,getElem_append_left->X9,replicate->Ya,getElem_map->Yd,take_succ_eq_append_getElem->Yf,append_nil->Yh,getElem?_range->Yl,take_take->Ym,append_assoc->Yr,mem_or_eq_of_mem_set->Ys,map_map->Yt,nil_sublist->Yv,length_drop->Yx,length_nil->YA,sublist_cons_self->YD,drop_take->YE,flatMap_eq_foldl->YG,mem_append_left->YJ,getElem?_set_ne->YK,range'->YU
open Int renaming tmod_eq_emod_of_nonneg->Xb,natCast_emod->XB,toNat_natCast->XN,cast_ofNat_Int->XU,eq_ofNat_of_zero_le->Yc,tdiv_eq_ediv_of_nonneg->Yq
open Prod renaming snd->Xr
open Bool renaming and_true->Xx,true_and->YN
open Option renaming map_some->XK,map_none->XL,isSome_some->YS
open Function renaming comp->Yp
set_option maxHeartbeats 4000000
set_option linter.defProp false
set_option linter.unusedVariables false
set_option linter.unusedSimpArgs false
section
namespace Go.Ab
open Go.Proofs
set_option maxRecDepth 10000
theorem hZ{a:Hp}(b:a.t.Sized a.n){c:Int}:bG zB 54 [.bool true,.int .i64 c] a (.tuple #[]):=by have S:=Si b;refine aa (n:=9) (rs:=[]) rfl Tryz.e54 rfl rfl rfl (lbt rfl) ?_;simp only [BZ,ab,seval];exact S.gr
theorem kind1_ok{a:Hp}(d:a.t.Sized a.n){x:Sec}{k:Int}:bG zB 53 [.agg ⟨encS x⟩,.int .i64 k] a (.bool (decide ((x.1:Int)=k))):=by have S:=Si d;refine aa (n:=9) (rs:=[.tmp 4]) rfl Tryz.e53 rfl rfl rfl (lbt rfl) ?_;simp only [BZ,encS,seval];refine ac (bR (by intro x e;cases e)) S ?_;clear S;intro h f S c;simp only [ae]at S;simp only [BZ,ab,S.ld (b:=f) (o:=0) m0 rfl,seval];exact S.gr
theorem eqF_ok {p:Hp} (H:p.t.Sized p.n) {u v:Value} {l:List Sec} {m:List Int} (A:ay p 2 encS u l) (B:ay p 1 (encI .i64) v m) (L:l.length<1000):
 bG zB 52 [u,v,.func (.func 53) #[] #[]] p (.bool (decide (l.map (fun x=>(x.1:Int))=m))):=by
 have S:=Si H;by_cases a:l.length=m.length
 . have hle:(l.length:Int)=(m.length:Int):=(by omega);refine aa (n:=32) (rs:=[.tmp 6]) rfl Tryz.e52 rfl rfl rfl (lbt rfl) ?_;simp only [BZ,A.lenq,B.lenq,hle,seval];refine az (fun(i:Nat) q h=>i<=l.length/\St NoM p h [] []/\(∀j (r:j<i) (y:j<l.length) (F:j<m.length),(l[j].1:Int)=m[j])/\q 1=v/\q 2=.func (.func 53) #[] #[]/\q 15=u/\q 16=.int .i64 l.length/\q 17=.int .i64 i) (fun i=>l.length-i) ?_ 0 _ _ ⟨Xd _,S,fun j h=>absurd h (Nat.not_lt_zero _),by simp [am,dy,a]⟩;clear S;intro i I q h ⟨hi,S,he,r1,r2,r15,r16,r17⟩;have w:ag .i64 ((i:Int)+1)=((i+1:Nat):Int):=(by rw [wrap64]<;>omega);by_cases hlt:i<l.length
   . have s:i<m.length:=(by omega);obtain⟨c,o,t,C⟩:=(A.gr S.gr).ix (kd:=.i64) dE hlt;obtain⟨M,N,f,d⟩:=(B).ix (kd:=.i64) (aH .i64) s;simp only [encI]at d;have O:=S.gr;simp only [BZ,r15,r16,r17,an,hlt,t,C,seval];refine ac au S ?_;clear S;intro h J S G;simp only [BZ,encS,seval];refine aw (S.store (i:=0) rfl ?_ ?_ rfl rfl ?_ ono) ?_
     . exact(by exact Tryz.t50.2.1)
     . exact(by intro x e;cases e)
     . exact lbt rfl
     clear S;rintro h ⟨S,K⟩;clear K;simp only [LC,ae,lay,Xe,Xf,seval]at S;simp only [BZ,r1,r2,f,S.gr.load d,XG,XP,Xn,S.lds (b:=J) (o:=0) (n:=2) m0 (lbt rfl),seval];refine ah (kind1_ok S.ok (x:=l[i]) (k:=m[i])) ?_;intro h g;replace S:=S.call g;clear g;replace S:=S.drop1;by_cases z:(l[i].1:Int)=m[i]
     . simp only [BZ,r17,z,w,seval];exact I (i+1) _ _ (by omega) ⟨by omega,S,fun j r y F=>by
        rcases Nat.lt_or_eq_of_le (Nat.le_of_lt_succ r)with h|rfl
        . exact he j h y F
        . exact z,by simp [am,r1,r2,r15,r16]⟩
     . have D: ¬(l.map (fun x=>(x.1:Int))=m):=fun e=>z (by subst e;rw [Yd]);simp only [BZ,ab,z,D,seval];exact S.gr
   . have D:l.map (fun x=>(x.1:Int))=m:=(by refine X2 (by rw [XJ];exact a) fun j r y=>?_;rw [Yd];exact he j (by rw [XJ]at r;omega) (by rw [XJ]at r;exact r) y);simp only [BZ,ab,r16,r17,an,hlt,D,seval];exact S.gr
 . have hle: ¬((l.length:Int)=(m.length:Int)):=(by omega);have E: ¬(l.map (fun x=>(x.1:Int))=m):=fun e=>a (by rw [<-e,XJ]);refine aa (n:=32) (rs:=[.tmp 6]) rfl Tryz.e52 rfl rfl rfl (lbt rfl) ?_;simp only [BZ,ab,A.lenq,B.lenq,hle,E,seval];exact S.gr
theorem is_ok{a:Hp}(j:a.t.Sized a.n){f:Nat}{i v:Value}{l:List Sec}{m:List Int}(R:a.load f 0 1=some [i])(s:SlK a 2 encS i l)(c:ay a 1 (encI .i64) v m)(p:l.length<1000):
 bG zB 51 [v,ptrTo f] a (.bool (decide ((l.take m.length).map (fun x=>(x.1:Int))=m))):=by
 have S:=Si j;by_cases b:m.length<=l.length
 . have hle:(m.length:Int)<=(l.length:Int):=(by omega);obtain⟨q,k,o⟩:=s.to (kd:=.i64) Tryz.t33.1 Tryz.t50.2.1 dE b;refine aa (n:=17) (rs:=[.tmp 3]) rfl Tryz.e51 rfl rfl rfl (lbt rfl) ?_;simp only [BZ,XK,XL,R,s.sl.lenq,c.lenq,hle,k,seval];refine ah (eqF_ok S.ok o.sl c (by rw [Xm];omega)) ?_;intro h g;replace S:=S.call g;clear g;simp only [BZ,ab,seval];exact S.gr
 . have hle: ¬((m.length:Int)<=(l.length:Int)):=(by omega);have d: ¬((l.take m.length).map (fun x=>(x.1:Int))=m):=fun e=>(by have:=congrArg List.length e;rw [XJ,Xm]at this;omega);refine aa (n:=17) (rs:=[.tmp 3]) rfl Tryz.e51 rfl rfl rfl (lbt rfl) ?_;simp only [BZ,ab,R,s.sl.lenq,c.lenq,hle,d,seval];exact S.gr
def jg(n k:Nat)(val:Nat->Int):List Value:=((Xa k).map fun j=>Value.int .i64 (val j))++Ya (n-k) (.int .i64 0)
theorem wJ{n k:Nat}{val:Nat->Int}(h:k<=n):(jg n k val).length=n:=by simp [jg];omega
theorem wC{n k:Nat}{val:Nat->Int}(h:k<n):(jg n k val).set k (.int .i64 (val k))=jg n (k+1) val:=by unfold jg;obtain⟨m,a⟩: ∃m,n-k=m+1:=⟨n-k-1,by omega⟩;rw [a,List.replicate_succ,XX _ _ (by simp),show n-(k+1)=m by omega,XM,XE];simp
theorem wH{n:Nat}{val:Nat->Int}:jg n n val=((Xa n).map val).flatMap (encI .i64):=by
 unfold jg;rw [Nat.sub_self,List.replicate_zero,Yh,List.flatMap_map]
 induction(Xa n)with
 |nil=>rfl|cons a l b=>rw [Xl,Xc,<-b];rfl
theorem Az{M:Nat->Prop}{d hq:Hp}{G:List GL}{g:FuncId}{a c:Array Value}{n:Nat}{val:Nat->Int}(e:Nat->List (Nat×Ob))(S:St M d hq (e 0) G)(s:n<=1000)
 (o: ∀k p h,k<n->St M d h (p::e k) G->Ret zB g (a.toList++c.toList) h fun r j=>r=.int .i64 (val k)/\St M d j (p::e (k+1)) G):
 Ret zB 113 [.int .i64 (n:Nat),.func (.func g) a c] hq fun r j=> ∃b,r=.slice (some ⟨b,0,none⟩) n n/\St M d j ((b,.row (((Xa n).map val).flatMap (encI .i64)) 1)::e n) G:=by
 have t:=S.ok;refine aa (n:=21) (rs:=[.tmp 4]) rfl Tryz.e113 rfl rfl rfl (lbt rfl) ?_;simp only [BZ,seval];refine ac (kC (by exact Tryz.t38.1) (by exact Xv) (by omega) (by omega)) S ?_;clear S;intro h b S m;rw [XN,lV,show Ya n (Value.int .i64 0)=jg n 0 val by simp [jg]]at S;simp only [BZ,XN,seval];refine az (fun(k:Nat) f h=>k<=n/\St M d h ((b,.row (jg n k val) 1)::e k) G/\f 1=.func (.func g) a c/\f 5=.slice (some ⟨b,0,none⟩) n n/\f 10=.int .i64 n/\f 11=.int .i64 k) (fun k=>n-k) ?_ 0 _ _ ⟨Xd _,S,by simp [am,dy]⟩;clear S;intro k q f h ⟨hk,S,r1,r5,r10,r11⟩;have w:ag .i64 ((k:Int)+1)=((k+1:Nat):Int):=by rw [wrap64]<;>omega
 by_cases hlt:k<n
 . simp only [BZ,r1,r5,r10,r11,an,hlt,seval];refine step_ret (o k _ _ hlt S) ?_;rintro _ h ⟨rfl,S⟩;simp only [BZ,eU hlt,seval];refine aw (aq S (i:=0) rfl Tryz.t3.2.2.1 ca (by rw [wJ hk];exact hlt) ono) ?_;clear S;rintro h ⟨S,_⟩;simp only [LC]at S;rw [wC hlt]at S;simp only [BZ,r11,w,seval];exact q (k+1) _ _ (by omega) ⟨by omega,S,by simp [am,r1,r5,r10]⟩
 . have l:k=n:=(by omega);subst l;simp only [BZ,ab,r5,r10,r11,an,hlt,seval];rw [wH]at S;exact⟨b,rfl,S⟩
theorem Ai{M:Nat->Prop}{d hq:Hp}{G:List GL}{g:FuncId}{a c:Array Value}{n:Nat}{val:Nat->Int}(e:Nat->List (Nat×Ob))(S:St M d hq (e 0) G)(s:n<=1000)
 (o: ∀k p h,k<n->St M d h (p::e k) G->Ret zB g (a.toList++c.toList) h fun r j=>r=.int .i64 (val k)/\St M d j (p::e (k+1)) G):
 Ret zB 114 [.int .i64 (n:Nat),.func (.func g) a c] hq fun r j=> ∃b,r=.slice (some ⟨b,0,none⟩) n n/\St M d j ((b,.row (((Xa n).map val).flatMap (encI .i64)) 1)::e n) G:=by
 have t:=S.ok;refine aa (n:=21) (rs:=[.tmp 4]) rfl Tryz.e114 rfl rfl rfl (lbt rfl) ?_;simp only [BZ,seval];refine ac (kC (by exact Tryz.t23.1) (by exact YH) (by omega) (by omega)) S ?_;clear S;intro h b S m;rw [XN,lV,show Ya n (Value.int .i64 0)=jg n 0 val by simp [jg]]at S;simp only [BZ,XN,seval];refine az (fun(k:Nat) f h=>k<=n/\St M d h ((b,.row (jg n k val) 1)::e k) G/\f 1=.func (.func g) a c/\f 5=.slice (some ⟨b,0,none⟩) n n/\f 10=.int .i64 n/\f 11=.int .i64 k) (fun k=>n-k) ?_ 0 _ _ ⟨Xd _,S,by simp [am,dy]⟩;clear S;intro k q f h ⟨hk,S,r1,r5,r10,r11⟩;have w:ag .i64 ((k:Int)+1)=((k+1:Nat):Int):=by rw [wrap64]<;>omega
 by_cases hlt:k<n
 . simp only [BZ,r1,r5,r10,r11,an,hlt,seval];refine step_ret (o k _ _ hlt S) ?_;rintro _ h ⟨rfl,S⟩;simp only [BZ,eU hlt,seval];refine aw (aq S (i:=0) rfl Tryz.t2.2.2.1 ca (by rw [wJ hk];exact hlt) ono) ?_;clear S;rintro h ⟨S,_⟩;simp only [LC]at S;rw [wC hlt]at S;simp only [BZ,r11,w,seval];exact q (k+1) _ _ (by omega) ⟨by omega,S,by simp [am,r1,r5,r10]⟩
 . have l:k=n:=(by omega);subst l;simp only [BZ,ab,r5,r10,r11,an,hlt,seval];rw [wH]at S;exact⟨b,rfl,S⟩
theorem zn{M:Nat->Prop}{b hq:Hp}{L:List (Nat×Ob)}{G:List GL}(S:St M b hq L G){c:Nat}:
 Ret zB 108 [ptrTo c] hq fun r f=> ∃a,r=.func (.func 164) #[] #[ptrTo a]/\St M b f ((a,.row [ptrTo c] 1)::L) G:=by
 have g:=S.ok;refine aa (n:=4) (rs:=[.tmp 2]) rfl Tryz.e108 rfl rfl rfl (lbt rfl) ?_;simp only [BZ,seval];refine ac (bR (by intro x e;cases e)) S ?_;clear S;intro h a S d;simp only [ae]at S;simp only [BZ,ab,seval];exact⟨_,rfl,S⟩
theorem kZ{M:Nat->Prop}{d hq:Hp}{L:List (Nat×Ob)}{G:List GL}(S:St M d hq L G){e c j a:Nat}{s:Bs}(f:hq.load e 0 1=some [ptrTo c])(g:L[j]? =some (c,.row (rdC s a (.pointer none)) 1))(i:a+4<=s.length)(l:s.length<=1000000):
 Ret zB 164 [ptrTo e] hq fun r m=>r=.int .i64 (bC ((s.drop a).take 4):Nat)/\St M d m (L.set j (c,.row (rdC s (a+4) (.pointer none)) 1)) G:=by
 have q:=S.ok;refine aa (n:=5) (rs:=[.tmp 1]) rfl Tryz.e164 rfl rfl rfl (lbt rfl) ?_;simp only [BZ,f,seval];refine step_ret (xX (bad:=false) S g rfl (by omega) l) ?_;rintro _ h ⟨rfl,o,b,S⟩;rw [dg i]at b S⊢;obtain rfl:o=.pointer none:=b.1;simp only []at S⊢;have p:bC ((s.drop a).take 4)<4294967296:=qg (k:=4) (by simp;omega);generalize bC ((s.drop a).take 4)=x at p;have w:ag .i64 (x:Int)=(x:Int):=by rw [wrap64]<;>omega
 simp only [BZ,bV,aA,cj,ab,w,seval];exact S
theorem cells1_ok{M:Nat->Prop}{d hq:Hp}{L:List (Nat×Ob)}{G:List GL}(S:St M d hq L G){e c j a:Nat}{s:Bs}(f:hq.load e 0 1=some [ptrTo c])(g:L[j]? =some (c,.row (rdC s a (.pointer none)) 1))(i:a+1<=s.length)(l:s.length<=1000000):
 Ret zB 117 [ptrTo e] hq fun r m=>r=.int .i64 (bC ((s.drop a).take 1):Nat)/\St M d m (L.set j (c,.row (rdC s (a+1) (.pointer none)) 1)) G:=by
 have q:=S.ok;refine aa (n:=5) (rs:=[.tmp 1]) rfl Tryz.e117 rfl rfl rfl (lbt rfl) ?_;simp only [BZ,f,seval];refine step_ret (wD (bad:=false) S g rfl (by omega) l) ?_;rintro _ h ⟨rfl,o,b,S⟩;rw [dg i]at b S⊢;obtain rfl:o=.pointer none:=b.1;simp only []at S⊢;have p:bC ((s.drop a).take 1)<256:=qg (k:=1) (by simp;omega);generalize bC ((s.drop a).take 1)=x at p;have w:ag .i64 (x:Int)=(x:Int):=by rw [wrap64]<;>omega
 simp only [BZ,bV,aA,cj,ab,w,seval];exact S
def g4(s:Bs)(a:Nat):Nat:=bC ((s.drop a).take 4)
theorem graph1_ok{M:Nat->Prop}{p hq:Hp}{L:List (Nat×Ob)}{G:List GL}(S:St M p hq L G){d k f j a:Nat}{s:Bs}(c:hq.load d 0 1=some [.func (.func 164) #[] #[ptrTo k]])(g:hq.load k 0 1=some [ptrTo f])(b:d≠f)(l:k≠f)(t:L[j]? =some (f,.row (rdC s a (.pointer none)) 1))(D:a+12<=s.length)(m:s.length<=1000000):
 Ret zB 111 [ptrTo d] hq fun r A=>r=.agg ⟨[.int .i64 (g4 s a:Nat),.int .i64 (g4 s (a+4):Nat),.int .i64 (g4 s (a+8):Nat)]⟩/\St M p A (L.set j (f,.row (rdC s (a+12) (.pointer none)) 1)) G:=by
 have u:=S.ok;have B:=S;replace S:=St.init1 S.ok (S.own _ (X3 t)).2;have E:=bJ u c;have F:=bJ u g;refine aa (n:=9) (rs:=[.cell 1 90]) rfl Tryz.e111 rfl rfl rfl (lbt rfl) ?_;simp only [BZ];refine ac au S ?_;clear S;intro h H S v;simp only [BZ];refine av (ax rfl) (q:=0) (ps:=[(3,4),(1,4),(1,2)]) (by kernel_rfl) ?_;simp only [BZ,cls,S.old c b,seval];refine cg (kZ (St.init1 S.ok (S.own _ m1).2) (j:=0) (S.old g l) rfl (by omega) m) ?_;rintro _ h ⟨rfl,T⟩;simp only [Xp]at T;have w:=gy (T.fr.get d (bJ S.ok (S.old c b)) b);replace S:=S.call1 (i:=1) rfl T.fr (T.own _ m0).2;simp only [LC,Xc,Xi]at S;clear T;simp only [BZ,cls,S.old c b,seval];refine cg (kZ (St.init1 S.ok (S.own _ m1).2) (j:=0) (S.old g l) rfl (by omega) m) ?_;rintro _ h ⟨rfl,T⟩;simp only [Xp]at T;have y:=gy (T.fr.get d (bJ S.ok (S.old c b)) b);replace S:=S.call1 (i:=1) rfl T.fr (T.own _ m0).2;simp only [LC,Xc,Xi]at S;clear T;simp only [BZ,cls,S.old c b,seval];refine cg (kZ (St.init1 S.ok (S.own _ m1).2) (j:=0) (S.old g l) rfl (by omega) m) ?_;rintro _ h ⟨rfl,T⟩;simp only [Xp]at T;have z:=gy (T.fr.get d (bJ S.ok (S.old c b)) b);replace S:=S.call1 (i:=1) rfl T.fr (T.own _ m0).2;simp only [LC,Xc,Xi]at S;clear T;simp only [BZ,cls,seval];refine dN (S.store (i:=0) rfl ?_ ?_ rfl rfl ?_ ono) ?_
 . exact(by exact Tryz.t90.2.1)
 . exact(by intro x e;cases e)
 . exact lbt rfl
 clear S;rintro h ⟨S,C⟩;clear C;simp only [LC,ae,lay,Xe,Xf,seval]at S;simp only [BZ,ab,seval];refine⟨by simp only [aY,bj,aR,bo,aW,ne_eq,not_false_eq_true,bz,bK,aX,aV,bZ,cw,aS,Xx,dy,al,aE w,aT w,aE y,aT y,aE z,aT z,seval],?_⟩;refine(fd (by decide) (by simp only [aS,al,seval];exact gD Tryz.t90.1 Tryz.t90.2.1 (S.lds (o:=0) (n:=3) m0 (lbt rfl)))).2 ?_;refine gR.2 ⟨rfl,?_⟩;exact B.call1 t S.drop1.fr (S.own _ m1).2
def lj(n k:Nat)(val:Nat->Arc):List Value:=(((Xa k).map val).flatMap cE)++Ya (3*(n-k)) (.int .i64 0)
theorem CA{n k:Nat}{val:Nat->Arc}(h:k<=n):(lj n k val).length=3*n:=by unfold lj;rw [Xh,aI ez,XJ,List.length_range,List.length_replicate];omega
theorem Cs{n k:Nat}{val:Nat->Arc}(h:k<n):lay (lj n k val) (k*3) (cE (val k))=lj n (k+1) val:=by
 unfold lj;obtain⟨m,b⟩: ∃m,n-k=m+1:=⟨n-k-1,by omega⟩;have a:(((Xa k).map val).flatMap cE).length=k*3:=by rw [aI ez,XJ,List.length_range]
 have c:((Xa (k+1)).map val).flatMap cE=((Xa k).map val).flatMap cE++cE (val k):=by rw [XM,XE,XS];simp
 rw [b,show n-(k+1)=m by omega,c];generalize((Xa k).map val).flatMap cE=A at a;unfold lay;rw [List.take_left' a,ez,<-XH,List.drop_left' a,List.drop_replicate,show 3*(m+1)-3=3*m by omega]
theorem repL_3{z:Value}(n:Nat):aU [z,z,z] n=Ya (3*n) z:=by
 induction n with
 |zero=>rfl|succ n a=>rw [aU,a,show 3*(n+1)=3*n+1+1+1 by omega];rfl
theorem someA_ok{M:Nat->Prop}{d hq:Hp}{G:List GL}{g:FuncId}{a c:Array Value}{n:Nat}{val:Nat->Arc}(f:Nat->List (Nat×Ob))(S:St M d hq (f 0) G)(t:n<=1000)
 (q: ∀k p h,k<n->St M d h (p::f k) G->Ret zB g (a.toList++c.toList) h fun r l=>r=.agg ⟨cE (val k)⟩/\St M d l (p::f (k+1)) G):
 Ret zB 110 [.int .i64 (n:Nat),.func (.func g) a c] hq fun r l=> ∃b,r=.slice (some ⟨b,0,none⟩) n n/\St M d l ((b,.row (((Xa n).map val).flatMap cE) 1)::f n) G:=by
 have u:=S.ok;refine aa (n:=21) (rs:=[.tmp 4]) rfl Tryz.e110 rfl rfl rfl (lbt rfl) ?_;simp only [BZ,seval];refine ac (kC (by exact Tryz.t35.1) (by exact Tryz.e90E) (by omega) (by omega)) S ?_;clear S;intro h b S o;simp only [BZ,XN,seval];rw [show aU [Value.int .i64 0,.int .i64 0,.int .i64 0] (n:Int).toNat=lj n 0 val by rw [XN,repL_3];simp [lj]]at S;refine az (fun(k:Nat) j h=>k<=n/\St M d h ((b,.row (lj n k val) 1)::f k) G/\j 1=.func (.func g) a c/\j 5=.slice (some ⟨b,0,none⟩) n n/\j 10=.int .i64 n/\j 11=.int .i64 k) (fun k=>n-k) ?_ 0 _ _ ⟨Xd _,S,by simp [am,dy]⟩;clear S;intro k s j h ⟨hk,S,r1,r5,r10,r11⟩;have w:ag .i64 ((k:Int)+1)=((k+1:Nat):Int):=by rw [wrap64]<;>omega
 by_cases hlt:k<n
 . simp only [BZ,r1,r5,r10,r11,an,hlt,seval];refine step_ret (q k _ _ hlt S) ?_;rintro _ h ⟨rfl,S⟩;simp only [BZ,eU hlt,seval];refine aw (S.store (i:=0) rfl Tryz.t90.2.1 (by intro x e;cases e) rfl rfl (by rw [CA hk];show k*3+3<=_;omega) ono) ?_;clear S;rintro h ⟨S,_⟩;simp only [LC,ae]at S;rw [Cs hlt]at S;simp only [BZ,r11,w,seval];exact s (k+1) _ _ (by omega) ⟨by omega,S,by simp [am,r1,r5,r10]⟩
 . have m:k=n:=(by omega);subst m;simp only [BZ,ab,r5,r10,r11,an,hlt,seval];rw [show lj k k val=((Xa k).map val).flatMap cE by simp [lj]]at S;exact⟨b,rfl,S⟩
theorem jP{a:Type}(f:Bs->a)(w k:Nat)(s:Bs):eo f w k s=(Xa k).map fun j=>f ((s.drop (w*j)).take w):=by
 refine List.ext_getElem? fun i=>?_;by_cases h:i<k
 . rw [numsD_at f w s h,XW,Yl h];rfl
 . rw [XY (by rw [zh];omega),XY (by simp;omega)]
def xAt(s:Bs)(j:Nat):Int:=mi ((s.drop (8+16*j)).take 8)
def yAt(s:Bs)(j:Nat):Int:=mi ((s.drop (8+16*j+8)).take 8)
def aAt(s:Bs)(N j:Nat):Arc:=⟨g4 s (8+16*N+12*j),g4 s (8+16*N+12*j+4),g4 s (8+16*N+12*j+8)⟩
theorem graB_rd{a:Gra}(h:fI a):(fo a).length=8+16*a.nodes+12*a.arcs.length/\g4 (fo a) 0=a.nodes/\g4 (fo a) 4=a.arcs.length/\a.X=(Xa a.nodes).map (xAt (fo a))/\a.Y=(Xa a.nodes).map (yAt (fo a))/\a.arcs=(Xa a.arcs.length).map (aAt (fo a) a.nodes):=by
 have i:=h.n2;have m2:=h.many;obtain⟨B,e⟩:=graG_graB h.lX h.lY ⟨h.n1,h.cX,h.cY,h.arcs⟩ (by omega) (by omega);generalize fo a=s at B e;have b:jL s=a.nodes:=congrArg Gra.nodes e;have c:eo arcG 12 (rW s) (s.drop (8+16*jL s))=a.arcs:=congrArg Gra.arcs e;have d:rW s=a.arcs.length:=by have:=congrArg List.length c;rwa [zh]at this
 have f:(eo xyG 16 (jL s) (s.drop 8)).map Prod.fst=a.X:=congrArg Gra.X e;have g:(eo xyG 16 (jL s) (s.drop 8)).map Xr=a.Y:=congrArg Gra.Y e;have l:=B.len;rw [b,d]at l;refine⟨l,b,d,?_,?_,?_⟩
 . rw [<-f,b,jP,Yt];refine Xt fun j _=>?_;simp only [Yp,xyG,xAt,XH,Ym];rfl
 . rw [<-g,b,jP,Yt];refine Xt fun j _=>?_;simp only [Yp,xyG,yAt,YE,XH,Ym];rfl
 . rw [<-d,<-c,d,b,jP];refine Xt fun j _=>?_;simp only [arcG,aAt,g4,YE,XH,Ym];rfl
theorem St.ne{M:Nat->Prop}{d h:Hp}{L:List (Nat×Ob)}{G:List GL}(S:St M d h L G){b c i j:Nat}{o o':Ob}(e:L[i]? =some (b,o))(f:L[j]? =some (c,o'))(a:i≠j):b≠c:=by rintro rfl;obtain⟨l,g⟩:=List.getElem?_eq_some_iff.1 (jV (G:=G) e);obtain⟨m,k⟩:=List.getElem?_eq_some_iff.1 (jV (G:=G) f);exact a ((List.getElem_inj S.apart).1 (g.trans k.symm))
theorem note_gl{M:Nat->Prop}{d h:Hp}{L:List (Nat×Ob)}{G:List GL}(S:St M d h L G){v:Value}{k:Nat}{vs:List Value}{b:Nat}{o:Ob}(a:(v,k,vs)∈G)(f:(b,o)∈L):ue v=none\/ ∃c,ue v=some (.blk c)/\c≠b:=by
 rcases(S.gown _ a).1 with⟨e,_⟩|⟨c,n,e,_,_⟩
 . simp only []at e;subst e;exact .inl rfl
 . simp only []at e;refine .inr ⟨c,by rw [e];rfl,fun g=>(S.gblk a (c:=c) (by rw [e];rfl)).2 ?_⟩;rw [g];exact List.mem_map.2 ⟨_,f,rfl⟩
theorem AO{G:Hp}(ok:G.t.Sized G.n){d:Gra}(f:fI d):Ret zB 55 [sv (fo d)] G fun r U=>Gr G U/\ ∃m,G.n<=m/\bW U m r d:=by
 obtain⟨el,e0,e4,eX,eY,eA⟩:=graB_rd f;have ad:=f.n2;have af:=f.many;generalize fo d=s at*
 have I:s.length<=1000000:=by omega
 have S:=Si ok;have c8:(8:Int)<=(s.length:Int):=by omega
 refine aa (n:=77) (rs:=[.tmp 2]) rfl Tryz.e55 rfl rfl rfl (lbt rfl) ?_;simp only [BZ,dK,c8,seval];refine ah (hZ S.ok) ?_;intro h g;replace S:=S.call g;clear g;simp only [BZ,pQ (l:=s),seval];refine step_ret (pU S) ?_;rintro _ h ⟨t,rfl,S⟩;simp only [BZ,seval];refine step_ret (zn S) ?_;rintro _ h ⟨Q,rfl,S⟩;simp only [BZ];refine ac au S ?_;clear S;intro h J S Y;simp only [BZ,seval];refine aw (aq S (i:=0) rfl ?_ ?_ ?_ ono) ?_
 . exact(by simp only [XF])
 . exact(by exact iq)
 . exact zM (lbt rfl)
 clear S;rintro h ⟨S,z⟩;clear z;simp only [LC,ae,lay,Xe,Xf,seval]at S;simp only [BZ];refine av (ax rfl) (q:=0) (ps:=[(1,2)]) (by kernel_rfl) ?_;simp only [BZ,cls,S.ld (b:=J) (o:=0) m0 rfl,seval];refine cg (kZ (s:=s) (a:=0) (St.init1 S.ok (S.own (t,.row (rdC s 0 (.pointer none)) 1) m2).2) (j:=0) (S.ld m1 rfl) rfl (by omega) I) ?_;rintro _ h ⟨rfl,T⟩;simp only [Xp]at T;have A:=fP S (i:=0) (j:=2) rfl rfl (by decide) T.fr;replace S:=S.call1 (i:=2) rfl T.fr (T.own _ m0).2;simp only [LC,Xc,Xi]at S;clear T;simp only [BZ,cls,S.ld (b:=J) (o:=0) m0 rfl,seval];refine cg (kZ (s:=s) (a:=0+4) (St.init1 S.ok (S.own (t,.row (rdC s (0+4) (.pointer none)) 1) m2).2) (j:=0) (S.ld m1 rfl) rfl (by omega) I) ?_;rintro _ h ⟨rfl,T⟩;simp only [Xp]at T;have B:=fP S (i:=0) (j:=2) rfl rfl (by decide) T.fr;replace S:=S.call1 (i:=2) rfl T.fr (T.own _ m0).2;simp only [LC,Xc,Xi]at S;clear T;rw [show bC ((s.drop 0).take 4)=d.nodes from e0,show bC ((s.drop (0+4)).take 4)=d.arcs.length from e4];simp only [BZ,cls,seval];refine⟨by simp only [aY,bj,aR,bo,aW,ne_eq,not_false_eq_true,bz,bK,aX,aV,bZ,cw,aS,Xx,al,aE A,aT A,aE B,aT B,seval],?_⟩;clear A B;have c1:(d.nodes:Int)<=16777216:=by omega
 have c2:(d.arcs.length:Int)<=67108864:=by omega
 have w1:ag .i64 (16*(d.nodes:Int))=((16*d.nodes:Nat):Int):=by rw [wrap64]<;>omega
 have w2:ag .i64 (8+((16*d.nodes:Nat):Int))=((8+16*d.nodes:Nat):Int):=by rw [wrap64]<;>omega
 have w3:ag .i64 (12*(d.arcs.length:Int))=((12*d.arcs.length:Nat):Int):=by rw [wrap64]<;>omega
 have w4:ag .i64 (((8+16*d.nodes:Nat):Int)+((12*d.arcs.length:Nat):Int))=((8+16*d.nodes+12*d.arcs.length:Nat):Int):=by rw [wrap64]<;>omega
 simp only [BZ,dK,el,c1,c2,w1,w2,w3,w4,seval];refine ah (hZ S.ok) ?_;intro h g;replace S:=S.call g;clear g;simp only [BZ,seval];refine ac au S ?_;clear S;intro h C S Z;simp only [BZ,seval];refine aw (S.store (i:=0) rfl ?_ ?_ rfl rfl ?_ ono) ?_
 . exact(by exact Tryz.t7.2.1)
 . exact(by intro x e;cases e)
 . exact lbt rfl
 clear S;rintro h ⟨S,z⟩;clear z;simp only [LC,ae,lay,Xe,Xf,seval]at S;simp only [BZ,seval];replace S:=(S.nilG (k:=1)).nilG (k:=1);refine az (fun(k:Nat) D h=>k<=d.nodes/\ ∃E F:Value,St NoM G h [(C,.row [.int .i64 d.nodes,E,F,.slice none 0 0] 1),(J,.row [.func (.func 164) #[] #[ptrTo Q]] 1),(Q,.row [ptrTo t] 1),(t,.row (rdC s (8+16*k) (.pointer none)) 1)] [(E,1,ints ((Xa k).map (xAt s))),(F,1,ints ((Xa k).map (yAt s)))]/\
  D 3=ptrTo t/\D 4=ptrTo J/\D 6=.int .i64 d.arcs.length/\D 7=ptrTo C/\D 42=.int .i64 d.nodes/\D 43=.int .i64 k) (fun k=>d.nodes-k) ?_ 0 _ _ ⟨Xd _,_,_,S,by simp [am,al]⟩
 clear S;intro k ih D h ⟨hk,E,F,S,r3,r4,r6,r7,r42,r43⟩;have w:ag .i64 ((k:Int)+1)=((k+1:Nat):Int):=by rw [wrap64]<;>omega
 have fX:Fl E:=(S.gown _ m0).1.fl;have fY:Fl F:=(S.gown _ m1).1.fl;by_cases hlt:k<d.nodes
 . simp only [BZ,r42,r43,an,hlt,seval];have K:=note_gl S m0 m0;refine av (ax rfl) (q:=1040) (ps:=[(7,9),(5,7),(3,7),(1,3)]) (by kernel_rfl) ?_;simp only [BZ,cls,r3,r7,S.ld (b:=C) (o:=1) m0 rfl,seval];refine cg (uy (bad:=false) (s:=s) (a:=8+16*k) (St.init1 S.ok (S.own (t,.row (rdC s (8+16*k) (.pointer none)) 1) m3).2) (i:=0) rfl rfl (by omega) I) ?_;rintro _ h ⟨rfl,V,u,T⟩;rw [dg (by omega)]at u T⊢;obtain rfl:V=.pointer none:=u.1;simp only [Xp]at T;have A:=fP S (i:=0) (j:=3) rfl rfl (by decide) T.fr;replace S:=S.call1 (i:=3) rfl T.fr (T.own _ m0).2;simp only [LC,Xc,Xi]at S;clear T;simp only [BZ,cls,seval];refine ec (bg (by exact Tryz.t23.1) (by exact YH) (by decide) (by rfl)) S ?_;clear S;intro h L S M N;simp only [LC,aU,bD,ae,Xo,Xj,Xg,Xs,seval]at S;simp only [BZ,cls,seval];have y:aC h 1 (.slice (some ⟨L,0,none⟩) 1 1)=some (1,ints [xAt s k]):=(by simp only [aC];rw [S.lds (b:=L) (o:=0) (n:=1*1) m0 (lbt rfl)];rfl);replace S:=S.drop1;refine jG (S.grow (j:=0) (m:=1) (new:=ints [xAt s k]) rfl Tryz.t23.1 YH (by decide) Tryz.t23.2.2.2.2.2 y rfl (by decide) rfl (by rw [bQ,bQ];simp;omega)) ?_;clear S y;rintro h O S;simp only [LC]at S;rw [<-gX,show(Xa k).map (xAt s)++[xAt s k]=(Xa (k+1)).map (xAt s) by rw [XM,XE];rfl]at S;simp only [BZ,cls,r3,r7,S.ld (b:=C) (o:=2) m0 rfl,seval];refine cg (uy (bad:=false) (s:=s) (a:=8+16*k+8) (St.init1 S.ok (S.own (t,.row (rdC s (8+16*k+8) (.pointer none)) 1) m3).2) (i:=0) rfl rfl (by omega) I) ?_;rintro _ h ⟨rfl,V,u,T⟩;rw [dg (by omega)]at u T⊢;obtain rfl:V=.pointer none:=u.1;simp only [Xp]at T;have B:=fP S (i:=0) (j:=3) rfl rfl (by decide) T.fr;replace S:=S.call1 (i:=3) rfl T.fr (T.own _ m0).2;simp only [LC,Xc,Xi]at S;clear T;simp only [BZ,cls,seval];refine ec (bg (by exact Tryz.t23.1) (by exact YH) (by decide) (by rfl)) S ?_;clear S;intro h L S M N;simp only [LC,aU,bD,ae,Xo,Xj,Xg,Xs,seval]at S;simp only [BZ,cls,seval];have y:aC h 1 (.slice (some ⟨L,0,none⟩) 1 1)=some (1,ints [yAt s k]):=(by simp only [aC];rw [S.lds (b:=L) (o:=0) (n:=1*1) m0 (lbt rfl)];rfl);replace S:=S.drop1;refine jG (S.grow (j:=1) (m:=1) (new:=ints [yAt s k]) rfl Tryz.t23.1 YH (by decide) Tryz.t23.2.2.2.2.2 y rfl (by decide) rfl (by rw [bQ,bQ];simp;omega)) ?_;clear S y;rintro h P S;simp only [LC]at S;rw [<-gX,show(Xa k).map (yAt s)++[yAt s k]=(Xa (k+1)).map (yAt s) by rw [XM,XE];rfl]at S;have ai:Fl O:=(S.gown _ m0).1.fl;have ak:Fl P:=(S.gown _ m1).1.fl;rw [show 8+16*k+8+8=8+16*(k+1) by omega]at S;simp only [BZ,cls,r7,seval];refine dN (aq S (i:=0) rfl ?_ ?_ ?_ ono) ?_
   . exact(by simp only [XF])
   . exact(by assumption)
   . exact zM (lbt rfl)
   clear S;rintro h ⟨S,z⟩;clear z;simp only [LC,ae,lay,Xe,Xf,seval]at S;simp only [BZ,cls,r7,seval];refine dN (aq S (i:=0) rfl ?_ ?_ ?_ ono) ?_
   . exact(by simp only [XF])
   . exact(by assumption)
   . exact zM (lbt rfl)
   clear S;rintro h ⟨S,z⟩;clear z;simp only [LC,ae,lay,Xe,Xf,seval]at S;simp only [BZ,r43,seval];refine⟨?_,?_⟩
   . rcases K with K|⟨c,K,nc⟩
     . simp only [aY,bj,aR,bo,aW,ne_eq,not_false_eq_true,bz,bK,aX,aV,bZ,cw,aS,Xx,r3,r7,al,aE A,aT A,aE B,aT B,sJ,K,pP,At,pair_n,pair_x,seval]
     . simp only [aY,bj,aR,bo,aW,ne_eq,not_false_eq_true,bz,bK,aX,aV,bZ,cw,aS,Xx,r3,r7,al,aE A,aT A,aE B,aT B,sJ,K,im nc,seval]
   simp only [w];exact ih (k+1) _ _ (by omega) ⟨by omega,O,P,S,by simp [am,r3,r4,r6,r7,r42]⟩
 . have W:k=d.nodes:=(by omega);subst W;rw [<-eX,<-eY]at S;simp only [BZ,r4,r6,r42,r43,an,hlt,seval];have ha: ∀k,(t,Ob.row (rdC s (8+16*d.nodes+12*k) (.pointer none)) 1)=(t,Ob.row (rdC s (8+16*d.nodes+12*k) (.pointer none)) 1):=fun _=>rfl;refine step_ret (someA_ok (val:=aAt s d.nodes) (fun k=>[(C,.row [.int .i64 d.nodes,E,F,.slice none 0 0] 1),(J,.row [.func (.func 164) #[] #[ptrTo Q]] 1),(Q,.row [ptrTo t] 1),(t,.row (rdC s (8+16*d.nodes+12*k) (.pointer none)) 1)]) S (n:=d.arcs.length) (by omega) ?_) ?_
   . clear S;intro k p h hk S;refine iZ (graph1_ok S (j:=4) (s:=s) (a:=8+16*d.nodes+12*k) (S.ld m2 rfl) (S.ld m3 rfl) (S.ne (i:=2) (j:=4) rfl rfl (by decide)) (S.ne (i:=3) (j:=4) rfl rfl (by decide)) rfl (by omega) I) ?_;rintro _ U ⟨rfl,S⟩;exact⟨rfl,S⟩
   rintro _ h ⟨R,rfl,S⟩;rw [<-eA]at S;simp only [BZ,r7,seval];refine aw (aq S (i:=1) rfl ?_ ?_ ?_ ono) ?_
   . exact(by simp only [XF])
   . exact(by exact ce)
   . exact zM (lbt rfl)
   clear S;rintro h ⟨S,z⟩;clear z;simp only [LC,ae,lay,Xe,Xf,seval]at S;simp only [BZ,r7,XG,XP,Xn,S.lds (b:=C) (o:=0) (n:=4) m1 (lbt rfl),seval];have H:dh h E F (.slice (some ⟨R,0,none⟩) d.arcs.length d.arcs.length) d:=⟨(S.gown _ m0).1.sl rfl (aH .i64) (by decide),(S.gown _ m1).1.sl rfl (aH .i64) (by decide),.inr ⟨R,0,none,_,rfl,Xk _,by
    have:=S.lds (b:=R) (o:=0) (n:=d.arcs.length*3) m0 (by rw [aI ez];omega);rw [Xn,Xy (by rw [aI ez];omega)]at this;exact this⟩⟩
   refine ah (Bi S.ok f H) ?_;intro h g;replace S:=S.call g;replace H:=H.gr g;clear g;simp only [BZ,seval];refine ah (hZ S.ok) ?_;intro h g;replace S:=S.call g;replace H:=H.gr g;clear g;simp only [BZ,r7,XG,XP,Xn,S.lds (b:=C) (o:=0) (n:=4) m1 (lbt rfl),seval];have nn:Ret zB 21 [i7 d E F (.slice (some ⟨R,0,none⟩) d.arcs.length d.arcs.length)] _ _:=yM S.ok f H;have gS:=S.gr;refine step_ret nn ?_;rintro _ h ⟨v,rfl,g,X⟩;replace S:=S.call g;simp only [BZ,seval];refine ah (hZ S.ok) ?_;intro h g;replace S:=S.call g;replace X:=X.gr g;clear g;simp only [BZ,ab,seval];exact⟨S.gr,_,gS.n,X⟩
theorem St.copyT{M:Nat->Prop}{d h:Hp}{L:List (Nat×Ob)}{G:List GL}(S:St M d h L G){E:Env}{t e:TypeId}{i b len cap:Nat}{p:Option Nat}{cs:List Value}{m:Bs}(c:L[i]? =some (b,.row cs 1))(f:E.und t=some (.slice e))(g:E.sz e=some 1)(a:m.length=len)(j:cs.length=len){ts:List TypeId}:
 ∃k w,copyV E h (t::ts) (.slice (some ⟨b,0,p⟩) len cap) (sv m)=some (k,w)/\w=.int .i64 (len:Nat)/\St M d k (L.set i (b,.row (aQ m) 1)) G:=by
 cases m with
 | nil=>have:len=0:=a.symm;subst this;have:cs=[]:=List.length_eq_zero_iff.1 j;subst this;refine⟨h,_,?_,rfl,by rw [show(b,Ob.row (aQ []) 1)=(b,Ob.row [] 1)from rfl,set_self c];exact S⟩;simp only [sv,copyV,f,g,lU,fH];rfl| cons x m=>
   obtain⟨y,l,n⟩:=(S.row (X3 c)).store S.ok ono (o:=0) (vs:=aQ (x::m)) (by simp [aQ];simp at a;omega) (by simp [aQ,iQ]);have q:lay cs 0 (aQ (x::m))=aQ (x::m):=lay_all (by rw [j,<-a];simp [aQ]);rw [q]at n;refine⟨h.put b y,_,?_,rfl,S.put c n⟩;have r:dk (x::m).length len=len:=(by rw [a];exact jn (Xk _));simp only [sv,copyV,f,g,lU,fH,r];have s:((x::m).map fun b=>Value.int .u8 (.ofNat b.toNat)).take len=aQ (x::m):=Xy (by simp;simp at a;omega);rw [s];simp only [aQ,Xl]at l⊢;simp only [YO,cond_true,l];rfl
theorem bFrom_ok {e:Hp} (N:e.t.Sized e.n) {c w a:Nat} {B:Nat->Nat} (H:c<=100) (O:w<=1000) (P:a=(w+7)/8) (D: ∀j,B j<256) (Q:Tz w a B):Ret zB 118 [.int .i64 (c:Nat),.int .i64 (w:Nat),sv (byB (c*a) B)] e fun r u=>Gr e u/\ ∃d f,r=ptrTo d/\e.n<=d/\e.n<=f/\iz u d f c w a B:=by
 have S:=Si N;have I:(byB (c*a) B).length=c*a:=by simp [byB]
 have R:a<=126:=by omega
 have hm:c*a<=100*126:=Yn H R;refine aa (n:=59) (rs:=[.tmp 6]) rfl Tryz.e118 rfl rfl rfl (lbt rfl) ?_;simp only [BZ,seval];refine step_ret (zY S.ok H O) ?_;rintro _ h ⟨g,d,f,rfl,J,K,F,m⟩;rw [<-P]at m;replace S:=S.call g;have S:=(S.push (.inl J) (o:=.row _ 1) m.r (by simp [keys])).push (.inl K) (o:=.row _ 1) m.b (by simp [keys];exact F.symm);have T:=fun(t:TypeId) (p q:Operand)=>qd (E:=zB) (x:=p) (y:=q) Tryz.t74.2.2.2.2.1 (.inr ⟨⟨d,rfl⟩,rfl⟩);simp only [BZ,dK,I,S.ld (b:=d) (o:=3) m1 rfl,seval];refine dX (S.copyT (i:=0) rfl Tryz.t22.1 Tryz.t5.2.2.1 I nG) ?_;clear S;rintro h _ ⟨rfl,S⟩;rw [<-yS D]at S;simp only [LC,Xc,Xi]at S;have L:(w:Int).tmod 8=((w%8:Nat):Int):=by rw [Xb (by omega)];omega
 have z8: ¬((8:Int)=0):=by decide
 have wm:ag .i64 ((w%8:Nat):Int)=((w%8:Nat):Int):=by rw [wrap64]<;>omega
 have v: ∀{u},St NoM e u [(f,.row (gp (c*a) B) 1),(d,.row [.int .i64 c,.int .i64 w,.int .i64 a,.slice (some ⟨f,0,none⟩) (c*a) (c*a)] 1)] []->Gr e u/\ ∃l z,ptrTo d=ptrTo l/\e.n<=l/\e.n<=z/\iz u l z c w a B:=fun S=>⟨S.gr,d,f,rfl,J,K,S.row m1,S.row m0,D⟩;by_cases hz:w%8=0
 . have s:((w%8:Nat):Int)=0:=(by omega);simp only [BZ,ab,gJ (show(8:Int)≠0 by decide),L,s,seval];exact v S
 . have s: ¬(((w%8:Nat):Int)=0):=(by omega);simp only [BZ,gJ (show(8:Int)≠0 by decide),L,s,seval];refine az (fun(k:Nat) A h=>k<=c/\St NoM e h [(f,.row (gp (c*a) B) 1),(d,.row [.int .i64 c,.int .i64 w,.int .i64 a,.slice (some ⟨f,0,none⟩) (c*a) (c*a)] 1)] []/\A 7=ptrTo d/\A 8=.int .i64 (w%8:Nat)/\A 36=.int .i64 c/\A 37=.int .i64 k) (fun k=>c-k) ?_ 0 _ _ ⟨Xd _,S,by simp [am,al]⟩;clear S;intro k U A h ⟨hk,S,r7,r8,r36,r37⟩;have V:ag .i64 ((k:Int)+1)=((k+1:Nat):Int):=(by rw [wrap64]<;>omega);by_cases hlt:k<c
   . have W:1<=a:=(by omega);have le:(k+1)*a<=c*a:=YI a hlt;have lp:0<(k+1)*a:=Nat.mul_pos (by omega) W;have C:(k+1)*a-1<c*a:=(by omega);have X:ag .i64 (((k+1:Nat):Int)*(a:Int))=(((k+1)*a:Nat):Int):=(by rw [<-Int.natCast_mul,wrap64]<;>omega);have Y:ag .i64 ((((k+1)*a:Nat):Int)-1)=(((k+1)*a-1:Nat):Int):=(by rw [wrap64]<;>omega);have Z:(k+1)*a-1=k*a+(a-1):=(by rw [Nat.add_mul];omega);have G:B ((k+1)*a-1)>>>(w%8)=0:=by
      refine X4 fun j=>?_;rw [YC,Nat.zero_testBit];by_cases hj:w%8+j<8
      . have:=Q k ((a-1)*8+(w%8+j)) (by omega) (by omega);unfold bitB at this;rw [show((a-1)*8+(w%8+j))/8=a-1 by omega,show((a-1)*8+(w%8+j))%8=w%8+j by omega,<-Z]at this;exact this
      . refine Nat.testBit_lt_two_pow (XC (D _) ?_);exact Yi (n:=2) (by decide) (show 8<=w%8+j by omega)
     have ld:=S.ld m0 (uL (B:=B) C);have z0:((0:Nat):Int)=0:=rfl;have M:=fun(t:TypeId) (p q:Operand)=>s9 (E:=zB) (t:=t) (p:=p) (q:=q) (k:=.u8) (k':=.i64) (x:=B ((k+1)*a-1)) (y:=w%8) (by show _<=8;omega);rw [G]at M;simp only [BZ,r36,r37,an,hlt,seval];refine av (ax rfl) (q:=0) (ps:=[]) (by kernel_rfl) ?_;simp only [BZ,cls,r7,r8,r37,V,X,Y,eU C,ld,M,z0,S.ld (b:=d) (o:=3) m1 rfl,S.ld (b:=d) (o:=2) m1 rfl,seval];exact U (k+1) _ _ (by omega) ⟨by omega,S,by simp [am,r7,r8,r36]⟩
   . simp only [BZ,ab,r7,r36,r37,an,hlt,seval];exact v S
theorem cellB_rd{m:List Int}(h: ∀x∈m,0<=x/\x<256):(Xa m.length).map (fun k=>((bC (((gc m).drop k).take 1):Nat):Int))=m:=by
 refine X2 (by simp) fun i c a=>?_;have d:=h m[i] (XQ a);rw [Yd,List.getElem_range];have b:i<(gc m).length:=by simp [gc];exact a
 rw [X7 b,XG,XP];simp only [gc,Yd,bC,UInt8.toNat_ofNat'];omega
theorem Bq{z:Hp}(ok:z.t.Sized z.n){u:Gra}(A:fI u){O:Value}{nb:Nat}(P:bW z nb O u){m:List Int}{F:Bs}{c d:Nat}{B:Nat->Nat}(C:m.length=u.nodes)(Q:hU m+1=((c:Nat):Int))(af:1<=c)(hr:c<=100)(hF:F=byB (c*d) B)(R: ∀x∈m,0<=x/\x<256)(T: ¬rx m)(U:d=(u.arcs.length+7)/8)(V:Tz u.arcs.length d B)(hB: ∀j,B j<256):
 Ret zB 57 [O,sv (gc m),sv F] z fun r G=>Gr z G/\ ∃H W,r=.tuple #[H,W]/\ ∀{M:Nat->Prop} {I:Hp},Mo M G I->(∀b,M b->b<z.n)->lg I H W u m F:=by
 have S:=Si ok;have ai:=A.n2;have ak:=A.many;have J:(gc m).length=u.nodes:=by simp [gc,C]
 have K:=cellB_rd R;rw [C]at K;generalize gc m=s at J K;have hs:s.length<=1000000:=by omega
 refine aa (n:=38) (rs:=[.tmp 6,.tmp 7]) rfl Tryz.e57 rfl rfl rfl (lbt rfl) ?_;simp only [BZ,dK,J,seval];refine ah (cM S.ok (P.gr S.gr)) ?_;intro h g;replace S:=S.call g;clear g;simp only [BZ,seval];refine ah (hZ S.ok) ?_;intro h g;replace S:=S.call g;clear g;simp only [BZ,pQ (l:=s),seval];refine step_ret (pU S) ?_;rintro _ h ⟨X,rfl,S⟩;simp only [BZ];refine ac au S ?_;clear S;intro h b8 S Y;simp only [BZ,seval];refine aw (aq S (i:=0) rfl ?_ ?_ ?_ ono) ?_
 . exact(by simp only [XF])
 . exact(by exact cS)
 . exact zM (lbt rfl)
 clear S;rintro h ⟨S,D⟩;clear D;simp only [LC,ae,lay,Xe,Xf,seval]at S;simp only [BZ,dK,J,seval];refine step_ret (Az (val:=fun k=>((bC ((s.drop k).take 1):Nat):Int)) (fun k=>[(b8,.row [ptrTo X] 1),(X,.row (rdC s k (.pointer none)) 1)]) S (n:=u.nodes) (by omega) ?_) ?_
 . clear S;intro k p h hk S;refine iZ (cells1_ok S (j:=2) (s:=s) (a:=k) (S.ld m1 rfl) rfl (by omega) hs) ?_;rintro _ G ⟨rfl,S⟩;exact⟨rfl,S⟩
 rintro _ h ⟨L,rfl,S⟩;rw [K]at S;have sM:ay h 1 (encI .i64) (.slice (some ⟨L,0,none⟩) u.nodes u.nodes) m:=.inr ⟨L,0,none,_,by rw [C],by rw [C];exact Xk _,by
  have:=S.lds (b:=L) (o:=0) (n:=m.length*1) m0 (by rw [aI (aH .i64)];omega);rw [Xn,Xy (by rw [aI (aH .i64)];omega)]at this;exact this⟩
 simp only [BZ,seval];refine step_ret (xP S.ok sM (by omega) (by omega)) ?_;have kn:=S.fr.n;rintro H h ⟨g,⟨N,_⟩|⟨_,f⟩⟩
 . exact absurd N T
 replace S:=S.call g;obtain⟨bc,vc,rfl,rC,sC,aL,a0⟩:=id f;have a1:=fun(t:TypeId) (p q:Operand)=>qd (E:=zB) (x:=p) (y:=q) Tryz.t73.2.2.2.2.1 (.inr ⟨⟨bc,rfl⟩,rfl⟩);simp only [BZ,seval];refine ah (hZ S.ok) ?_;intro h g;replace S:=S.call g;replace f:=f.gr g;clear g;simp only [BZ,seval];refine ah (uj S.ok (n:=hU m+1) (.inr ⟨⟨_,f⟩,rfl⟩)) ?_;intro h g;replace S:=S.call g;replace f:=f.gr g;clear g;simp only [BZ,seval];refine ah (mU S.ok (P.gr S.gr)) ?_;intro h g;replace S:=S.call g;replace f:=f.gr g;clear g;rw [Q];subst hF;simp only [BZ,seval];refine step_ret (bFrom_ok S.ok hr (by omega) U hB V) ?_;have a2:=S.fr.n;rintro _ h ⟨g,Z,bb,rfl,np,a3,mB⟩;replace S:=S.call g;replace f:=f.gr g;have ad:=fun(t:TypeId) (p q:Operand)=>qd (E:=zB) (x:=p) (y:=q) Tryz.t74.2.2.2.2.1 (.inr ⟨⟨Z,rfl⟩,rfl⟩);simp only [BZ,seval];refine ah (hZ S.ok) ?_;intro h g;replace S:=S.call g;simp only [BZ,ab,seval];have v:=mB.gr g;exact⟨S.gr,_,_,rfl,fun {M I} D w=>⟨_,Z,bb,c,d,B,(f.gr g).mo D (fun b hb=>XC (w b hb) kn),C,rfl,Q,⟨D.has (o:=.row _ 1) v.r (fun e=>by have:=w _ e;omega),D.has (o:=.row _ 1) v.b (fun e=>by have:=w _ e;omega),v.lt⟩,rfl,R,T,U,V⟩⟩
def slc(N b:Nat):Value:=.slice (some ⟨b,0,none⟩) N N
def rL(β:Nat->Nat)(row:Nat->List Int):Nat->List (Nat×Ob)
 |0=>[]|i+1=>(β i,.row ((row i).flatMap (encI .i64)) 1)::rL β row i
theorem jN(β:Nat->Nat)(row:Nat->List Int)(i:Nat):(rL β row i).length=i:=by
 induction i with
 |zero=>rfl|succ i a=>simp [rL,a]
theorem Bg{β a:Nat->Nat}{row:Nat->List Int}{i:Nat}(h: ∀j,j<i->β j=a j):rL β row i=rL a row i:=by
 induction i with
 |zero=>rfl|succ i b=>rw [rL,rL,h i (Yu i),b fun j c=>h j (by omega)]
def eW(N:Nat)(β:Nat->Nat):Nat->List Value
 |0=>[]|i+1=>if i%2=0 then eW N β i++[slc N (β i)]else eW N β i
def oW(N:Nat)(β:Nat->Nat):Nat->List Value
 |0=>[]|i+1=>if i%2=0 then oW N β i else oW N β i++[slc N (β i)]
theorem eW_len(N:Nat)(β:Nat->Nat)(i:Nat):(eW N β i).length<=i:=by
 induction i with
 |zero=>exact Xk _|succ i a=>rw [eW];split<;>(try simp)<;>omega
theorem oW_len(N:Nat)(β:Nat->Nat)(i:Nat):(oW N β i).length<=i:=by
 induction i with
 |zero=>exact Xk _|succ i a=>rw [oW];split<;>(try simp)<;>omega
theorem Bz{N:Nat}{β a:Nat->Nat}{i:Nat}(h: ∀j,j<i->β j=a j):eW N β i=eW N a i:=by
 induction i with
 |zero=>rfl|succ i b=>rw [eW,eW,h i (Yu i),b fun j c=>h j (by omega)]
theorem AF{N:Nat}{β a:Nat->Nat}{i:Nat}(h: ∀j,j<i->β j=a j):oW N β i=oW N a i:=by
 induction i with
 |zero=>rfl|succ i b=>rw [oW,oW,h i (Yu i),b fun j c=>h j (by omega)]
def gx(s:Bs)(n N i:Nat):List Int:=(Xa N).map fun j=>mi ((s.drop (1+4*n+8*N*i+8*j)).take 8)
theorem tabB_rd{N:Nat}{T:Tab}(h:TabL N T):(fW T).length=1+T.l.length*(4+16*N)/\bC ((fW T).take 1)=T.l.length/\T.l=(Xa T.l.length).map (fun k=>((g4 (fW T) (1+4*k):Nat):Int))/\qI N (fW T)=(Xa (2*T.l.length)).map (gx (fW T) T.l.length N)/\T.to=sk (qI N (fW T))/\T.fr=odds (qI N (fW T)):=by
 obtain⟨a,b⟩:=tabG_tabB h;refine⟨Bh h,a,?_,?_,(congrArg Tab.to b).symm,(congrArg Tab.fr b).symm⟩
 . have d:eo markG 4 (se (fW T)) ((fW T).drop 1)=T.l:=congrArg Tab.l b
   conv=>lhs;rw [<-d,a,jP]
   refine Xt fun j _=>?_;simp only [markG,g4,XH]
 . unfold qI;rw [a,jP];refine Xt fun i _=>?_;unfold gx;rw [jP];refine Xt fun j c=>?_;have c:=List.mem_range.1 c;rw [YE,XH,XH,Ym,show min 8 (8*N-8*j)=8 by omega];rw [show 1+4*T.l.length+(8*N*i+8*j)=1+4*T.l.length+8*N*i+8*j from(YM _ _ _).symm]
theorem eoW_two(N:Nat)(β:Nat->Nat)(k:Nat):eW N β (2*k)=((Xa k).map fun j=>slc N (β (2*j)))/\oW N β (2*k)=((Xa k).map fun j=>slc N (β (2*j+1))):=by
 induction k with
 |zero=>exact⟨rfl,rfl⟩| succ k a=>rw [show 2*(k+1)=2*k+1+1 by omega,eW,eW,oW,oW,if_neg (by omega),if_pos (by omega),if_neg (by omega),if_pos (by omega),a.1,a.2,XM,XE,XE];exact⟨rfl,rfl⟩
theorem AG(f:Nat->List Int)(n:Nat): ∀a,sk ((YU a (2*n)).map f)=((Xa n).map fun j=>f (a+2*j))/\odds ((YU a (2*n)).map f)=((Xa n).map fun j=>f (a+2*j+1)):=by
 induction n with
 |zero=>intro a;exact⟨rfl,rfl⟩| succ n b=>
   intro a;obtain⟨c,d⟩:=b (a+1+1);rw [show 2*(n+1)=2*n+1+1 by omega,List.range'_succ,List.range'_succ,Xl,Xl,sk,odds,c,d,List.range_succ_eq_map,Xl,Xl,Yt,Yt];refine⟨?_,?_⟩
   . congr 1;refine Xt fun j _=>?_;simp only [Yp];congr 1;omega
   . congr 1;refine Xt fun j _=>?_;simp only [Yp];congr 1;omega
theorem rL_mem{β:Nat->Nat}{row:Nat->List Int}{i k:Nat}(h:k<i):(β k,Ob.row ((row k).flatMap (encI .i64)) 1)∈rL β row i:=by
 induction i with
 |zero=>omega| succ i a=>
   rw [rL];rcases Nat.lt_or_eq_of_le (Nat.le_of_lt_succ h)with h|rfl
   . exact .tail _ (a h)
   . exact .head _
theorem encV_self(l:List Value):l=l.flatMap encV:=by
 induction l with
 |nil=>rfl|cons a l b=>rw [Xc,<-b];rfl
theorem app4{e:Type}{x:List e}{i:Nat}{a b c d:e}(h:x.length=i):(x++[a,b,c,d])[i]? =some a:=by rw [Xz (by omega),h];simp
theorem set4{e:Type}{x:List e}{i:Nat}{p a b c d y:e}(h:x.length=i):(p::(x++[a,b,c,d])).set (i+1) y=p::(x++[y,b,c,d]):=by rw [List.set_cons_succ,XX _ _ (by omega),h,Nat.sub_self];rfl
theorem A7{Q:Hp}(ok:Q.t.Sized Q.n){e:Gra}(a6:fI e)(a7:e.nodes<=100){pn:Value}{nb:Nat}(hN:bW Q nb pn e){f:Tab}(X:TabL e.nodes f)(hM:gV e.nodes f.l)(hz: ∀(i:Nat) (v:Int),f.l[i]? =some v->pD e.nodes f.l.length (cJ f.to) i v=0/\pD e.nodes f.l.length (cJ f.fr) i v=0):
 Ret zB 56 [pn,sv (fW f)] Q fun r h'=>Gr Q h'/\ ∃m,Q.n<=m/\TabAt h' m r e.nodes f.l (cJ f.to) (cJ f.fr):=by
 have S:=Si ok;obtain⟨el,e1,eL,eR,eT,eF⟩:=tabB_rd X;have t1:=X.l1;have t2:=X.l2;have bk:f.l.length*(4+16*e.nodes)<=16*1604:=Yn t2 (by omega);generalize fW f=s at*
 generalize Y:f.l.length=n at*
 have hs:s.length<=1000000:=by omega
 have bm:4*n<=n*(4+16*e.nodes):=by rw [Yj 4];exact X6 n (by omega)
 refine aa (n:=94) (rs:=[.tmp 4]) rfl Tryz.e56 rfl rfl rfl (lbt rfl) ?_;simp only [BZ,pQ (l:=s),seval];refine step_ret (pU S) ?_;rintro _ h ⟨A,rfl,S⟩;simp only [BZ,seval];refine step_ret (wD (bad:=false) (s:=s) (a:=0) S (i:=0) rfl rfl (by omega) hs) ?_;rintro _ h ⟨rfl,f',C,S⟩;rw [dg (by omega)]at C S⊢;obtain rfl:f'=.pointer none:=C.1;simp only [LC,Xc,Xi]at S;simp only [Xn,e1,Xj]at S⊢;have w0:ag .i64 (n:Int)=n:=by rw [wrap64]<;>omega
 have c1:(1:Int)<=(n:Int):=by omega
 have c2:(n:Int)<=16:=by omega
 have w1:ag .i64 (16*(e.nodes:Int))=((16*e.nodes:Nat):Int):=by rw [wrap64]<;>omega
 have w2:ag .i64 (4+((16*e.nodes:Nat):Int))=((4+16*e.nodes:Nat):Int):=by rw [wrap64]<;>omega
 have w3:ag .i64 ((n:Int)*((4+16*e.nodes:Nat):Int))=((n*(4+16*e.nodes):Nat):Int):=by rw [<-Int.natCast_mul,wrap64]<;>omega
 have w4:ag .i64 (1+((n*(4+16*e.nodes):Nat):Int))=((1+n*(4+16*e.nodes):Nat):Int):=by rw [wrap64]<;>omega
 simp only [BZ,bV,aA,cj,w0,c1,c2,dK,el,seval];refine ah (cM S.ok (hN.gr S.gr)) ?_;intro h g;replace S:=S.call g;clear g;simp only [BZ,w1,w2,w3,w4,seval];refine ah (hZ S.ok) ?_;intro h g;replace S:=S.call g;clear g;simp only [BZ,seval];refine step_ret (zn S) ?_;rintro _ h ⟨U,rfl,S⟩;simp only [BZ,seval];refine step_ret (Az (val:=fun k=>((g4 s (1+4*k):Nat):Int)) (fun k=>[(U,.row [ptrTo A] 1),(A,.row (rdC s (1+4*k) (.pointer none)) 1)]) S (n:=n) (by omega) ?_) ?_
 . clear S;intro k p h P S;refine iZ (kZ S (j:=2) (s:=s) (a:=1+4*k) (S.ld m1 rfl) rfl (by omega) hs) ?_;rintro _ h' ⟨rfl,S⟩;exact⟨rfl,S⟩
 rintro _ h ⟨N,rfl,S⟩;rw [<-eL]at S;simp only [BZ,seval];refine ac au S ?_;clear S;intro h G S bi;have a8:ag .i64 (2*(n:Int))=((2*n:Nat):Int):=by rw [wrap64]<;>omega
 simp only [BZ,a8,seval];replace S:=(S.nilG (k:=1)).nilG (k:=1);rw [show(1+4*n)=1+4*n+8*e.nodes*0 by omega]at S;refine az (fun(i:Nat) J h=>i<=2*n/\ ∃(β:Nat->Nat) (D F:Value),St NoM Q h (rL β (gx s n e.nodes) i++[(G,.row [D,F] 1),(N,.row (f.l.flatMap (encI .i64)) 1),(U,.row [ptrTo A] 1),(A,.row (rdC s (1+4*n+8*e.nodes*i) (.pointer none)) 1)]) [(D,1,eW e.nodes β i),(F,1,oW e.nodes β i)]/\
  J 0=pn/\J 5=ptrTo A/\J 6=.int .i64 n/\J 7=slc n N/\J 8=ptrTo G/\J 42=.int .i64 (2*n:Nat)/\J 43=.int .i64 i) (fun i=>2*n-i) ?_ 0 _ _ ⟨Xd _,fun _=>0,_,_,S,by simp [am,dy,al,slc]⟩
 clear S;intro i ih J h ⟨hi,β,D,F,S,r0,r5,r6,r7,r8,r42,r43⟩;have w:ag .i64 ((i:Int)+1)=((i+1:Nat):Int):=by rw [wrap64]<;>omega
 by_cases hlt:i<2*n
 . have tm:(i:Int).tmod 2=((i%2:Nat):Int):=(by rw [Xb (by omega)];omega);have wm:ag .i64 ((i%2:Nat):Int)=((i%2:Nat):Int):=(by rw [wrap64]<;>omega);simp only [BZ,r42,r43,an,hlt,seval];refine av (ax rfl) (q:=2048) (ps:=[(5,10),(5,7)]) (by kernel_rfl) ?_;have hb:4*n+8*e.nodes*(i+1)<=n*(4+16*e.nodes):=(by rw [Yo n,Yj n 4,show n*(16*e.nodes)=8*e.nodes*(2*n) by rw [show 16*e.nodes=8*e.nodes*2 by omega,Yj n,Nat.mul_assoc]];exact Nat.add_le_add_left (X6 _ hlt) _);rw [Yo,Xg]at hb;rcases Nat.mod_two_eq_zero_or_one i with he|he
   . have tp:((i%2:Nat):Int)=0:=(by omega);have Z:h.load G 0 1=some [D]:=S.ld (XD _ m0) rfl;simp only [BZ,cls,XU,r0,r8,gJ (show(2:Int)≠0 by decide),tm,tp,Z,seval];have k8:G<h.n:=bJ S.ok Z;refine fh (cM S.ok (hN.gr S.gr)) ?_;intro h g;have V:=aP g k8;have ad:=XC k8 g.n;replace S:=S.call g;clear g Z;simp only [BZ,cls,r5,seval];have u: ∀(x:List (Nat×Ob)) (a b c d:Nat×Ob),x.length=i->(x++[a,b,c,d])[i+3]? =some d:=fun x a b c d hx=>(by rw [Xz (by omega),hx];simp);have u:=u _ (G,.row [D,F] 1) (N,.row (f.l.flatMap (encI .i64)) 1) (U,.row [ptrTo A] 1) (A,.row (rdC s (1+4*n+8*e.nodes*i) (.pointer none)) 1) (jN β (gx s n e.nodes) i);refine cg (Ai (M:=(· =A)) (val:=fun j=>mi ((s.drop (1+4*n+8*e.nodes*i+8*j)).take 8)) (fun k=>[(A,.row (rdC s (1+4*n+8*e.nodes*i+8*k) (.pointer none)) 1)]) (St.init1 S.ok (S.own _ (X3 u)).2) (n:=e.nodes) (by omega) ?_) ?_
     . intro k p h P T;refine iZ (uy (bad:=false) (s:=s) (a:=1+4*n+8*e.nodes*i+8*k) T (i:=1) rfl rfl (by omega) hs) ?_;rintro _ h' ⟨rfl,f',C,T⟩;rw [dg (by omega)]at C T⊢;obtain rfl:f'=.pointer none:=C.1;exact⟨rfl,T⟩
     rintro _ h ⟨K,rfl,T⟩;have H: ∀(x:List (Nat×Ob)) (a b c d:Nat×Ob),x.length=i->(x++[a,b,c,d])[i]? =some a:=fun x a b c d hx=>(by rw [Xz (by omega),hx];simp);have H:=H _ (G,.row [D,F] 1) (N,.row (f.l.flatMap (encI .i64)) 1) (U,.row [ptrTo A] 1) (A,.row (rdC s (1+4*n+8*e.nodes*i) (.pointer none)) 1) (jN β (gx s n e.nodes) i);have af:=S.ne H u (by omega);have W:=gy (T.fr.get G ad af);have nn:=(T.own _ m0).1.resolve_right (T.ne (i:=0) (j:=1) rfl rfl (by decide));have nk:K∉keys (rL β (gx s n e.nodes) i++[(G,.row [D,F] 1),(N,.row (f.l.flatMap (encI .i64)) 1),(U,.row [ptrTo A] 1),(A,.row (rdC s (1+4*n+8*e.nodes*i+8*e.nodes) (.pointer none)) 1)]) [(D,1,eW e.nodes β i),(F,1,oW e.nodes β i)]:=fun P=>absurd (S.key_lt (b:=K) (by simpa [keys]using P)) (by omega);have n0:=S.gr.n;replace S:=S.call1 (i:=i+3) u T.fr (T.own _ m1).2;rw [XX _ _ (by rw [jN];omega),jN,show i+3-i=3 by omega]at S;simp only [LC]at S;replace S:=S.push (.inl (Yk n0 nn)) (T.own _ m0).2 nk;clear T;have fT:Fl D:=(S.gown _ m0).1.fl;have fF:Fl F:=(S.gown _ m1).1.fl;simp only [BZ,cls,seval];refine ec (bg (by exact Tryz.t39.1) (by exact YP) (by decide) (by rfl)) S ?_;clear S;intro h bs S a0 a1;simp only [LC,aU,bD,ae,Xo,Xj,Xg,Xs,seval]at S;simp only [BZ,cls,seval];have O:aC h 1 (.slice (some ⟨bs,0,none⟩) 1 1)=some (1,[slc e.nodes K]):=(by simp only [aC];rw [S.lds (b:=bs) (o:=0) (n:=1*1) m0 (lbt rfl)];rfl);replace S:=S.drop1;have lw:=eW_len e.nodes β i;refine jG (S.grow (j:=0) (m:=1) (new:=[slc e.nodes K]) rfl Tryz.t39.1 YP (by decide) Tryz.t39.2.2.2.2.2 O rfl (by decide) rfl (by simp;omega)) ?_;clear S O;rintro h vN S;simp only [LC,Xc,Xi]at S;have ai:Fl vN:=(S.gown _ m0).1.fl;simp only [BZ,cls,XU,r8,seval];refine dN (aq S (i:=i+1) (show(_::(_++_))[i+1]? =_ from app4 (jN β (gx s n e.nodes) i)) Tryz.t39.2.2.1 ai (zM (lbt rfl)) ono) ?_;clear S;rintro h ⟨S,_⟩;rw [set4 (jN β (gx s n e.nodes) i)]at S;simp only [LC,Xc,Xi]at S;simp only [BZ,r43,seval];refine⟨by simp only [aY,bj,aR,bo,aW,ne_eq,not_false_eq_true,bz,bK,aX,aV,bZ,cw,aS,Xx,r0,r5,r8,al,aE V,aT V,aE W,aT W,seval],?_⟩;simp only [w];obtain⟨B,I,ak⟩: ∃B:Nat->Nat,(∀j,j<i->β j=B j)/\B i=K:=⟨fun j=>if j=i then K else β j,fun j L=>by simp [Nat.ne_of_lt L],by simp⟩;refine ih (i+1) _ _ (by omega) ⟨by omega,B,vN,F,?_,by simp [am,r0,r5,r6,r7,r8,r42]⟩;rw [Bg I,Bz I,AF I,<-ak]at S;rw [rL,Yo,Xg,<-YM];rw [eW,oW,if_pos he,if_pos he];exact S
   . have tp:((i%2:Nat):Int)=1:=(by omega);have Z:h.load G 1 1=some [F]:=S.ld (XD _ m0) rfl;simp only [BZ,cls,XU,r0,r8,gJ (show(2:Int)≠0 by decide),tm,tp,Z,seval];have k8:G<h.n:=bJ S.ok Z;refine fh (cM S.ok (hN.gr S.gr)) ?_;intro h g;have V:=aP g k8;have ad:=XC k8 g.n;replace S:=S.call g;clear g Z;simp only [BZ,cls,r5,seval];have u: ∀(x:List (Nat×Ob)) (a b c d:Nat×Ob),x.length=i->(x++[a,b,c,d])[i+3]? =some d:=fun x a b c d hx=>(by rw [Xz (by omega),hx];simp);have u:=u _ (G,.row [D,F] 1) (N,.row (f.l.flatMap (encI .i64)) 1) (U,.row [ptrTo A] 1) (A,.row (rdC s (1+4*n+8*e.nodes*i) (.pointer none)) 1) (jN β (gx s n e.nodes) i);refine cg (Ai (M:=(· =A)) (val:=fun j=>mi ((s.drop (1+4*n+8*e.nodes*i+8*j)).take 8)) (fun k=>[(A,.row (rdC s (1+4*n+8*e.nodes*i+8*k) (.pointer none)) 1)]) (St.init1 S.ok (S.own _ (X3 u)).2) (n:=e.nodes) (by omega) ?_) ?_
     . intro k p h P T;refine iZ (uy (bad:=false) (s:=s) (a:=1+4*n+8*e.nodes*i+8*k) T (i:=1) rfl rfl (by omega) hs) ?_;rintro _ h' ⟨rfl,f',C,T⟩;rw [dg (by omega)]at C T⊢;obtain rfl:f'=.pointer none:=C.1;exact⟨rfl,T⟩
     rintro _ h ⟨K,rfl,T⟩;have H: ∀(x:List (Nat×Ob)) (a b c d:Nat×Ob),x.length=i->(x++[a,b,c,d])[i]? =some a:=fun x a b c d hx=>(by rw [Xz (by omega),hx];simp);have H:=H _ (G,.row [D,F] 1) (N,.row (f.l.flatMap (encI .i64)) 1) (U,.row [ptrTo A] 1) (A,.row (rdC s (1+4*n+8*e.nodes*i) (.pointer none)) 1) (jN β (gx s n e.nodes) i);have af:=S.ne H u (by omega);have W:=gy (T.fr.get G ad af);have nn:=(T.own _ m0).1.resolve_right (T.ne (i:=0) (j:=1) rfl rfl (by decide));have nk:K∉keys (rL β (gx s n e.nodes) i++[(G,.row [D,F] 1),(N,.row (f.l.flatMap (encI .i64)) 1),(U,.row [ptrTo A] 1),(A,.row (rdC s (1+4*n+8*e.nodes*i+8*e.nodes) (.pointer none)) 1)]) [(D,1,eW e.nodes β i),(F,1,oW e.nodes β i)]:=fun P=>absurd (S.key_lt (b:=K) (by simpa [keys]using P)) (by omega);have n0:=S.gr.n;replace S:=S.call1 (i:=i+3) u T.fr (T.own _ m1).2;rw [XX _ _ (by rw [jN];omega),jN,show i+3-i=3 by omega]at S;simp only [LC]at S;replace S:=S.push (.inl (Yk n0 nn)) (T.own _ m0).2 nk;clear T;have fT:Fl D:=(S.gown _ m0).1.fl;have fF:Fl F:=(S.gown _ m1).1.fl;simp only [BZ,cls,seval];refine ec (bg (by exact Tryz.t39.1) (by exact YP) (by decide) (by rfl)) S ?_;clear S;intro h bs S a0 a1;simp only [LC,aU,bD,ae,Xo,Xj,Xg,Xs,seval]at S;simp only [BZ,cls,seval];have O:aC h 1 (.slice (some ⟨bs,0,none⟩) 1 1)=some (1,[slc e.nodes K]):=(by simp only [aC];rw [S.lds (b:=bs) (o:=0) (n:=1*1) m0 (lbt rfl)];rfl);replace S:=S.drop1;have lw:=oW_len e.nodes β i;refine jG (S.grow (j:=1) (m:=1) (new:=[slc e.nodes K]) rfl Tryz.t39.1 YP (by decide) Tryz.t39.2.2.2.2.2 O rfl (by decide) rfl (by simp;omega)) ?_;clear S O;rintro h vN S;simp only [LC,Xc,Xi]at S;have ai:Fl vN:=(S.gown _ m1).1.fl;simp only [BZ,cls,XU,r8,seval];refine dN (aq S (i:=i+1) (show(_::(_++_))[i+1]? =_ from app4 (jN β (gx s n e.nodes) i)) Tryz.t39.2.2.1 ai (zM (lbt rfl)) ono) ?_;clear S;rintro h ⟨S,_⟩;rw [set4 (jN β (gx s n e.nodes) i)]at S;simp only [LC,Xc,Xi]at S;simp only [BZ,r43,seval];refine⟨by simp only [aY,bj,aR,bo,aW,ne_eq,not_false_eq_true,bz,bK,aX,aV,bZ,cw,aS,Xx,r0,r5,r8,al,aE V,aT V,aE W,aT W,seval],?_⟩;simp only [w];obtain⟨B,I,ak⟩: ∃B:Nat->Nat,(∀j,j<i->β j=B j)/\B i=K:=⟨fun j=>if j=i then K else β j,fun j L=>by simp [Nat.ne_of_lt L],by simp⟩;refine ih (i+1) _ _ (by omega) ⟨by omega,B,D,vN,?_,by simp [am,r0,r5,r6,r7,r8,r42]⟩;rw [Bg I,Bz I,AF I,<-ak]at S;rw [rL,Yo,Xg,<-YM];rw [eW,oW,if_neg (by omega),if_neg (by omega)];exact S
 . have ba:i=2*n:=(by omega);subst ba;rw [(eoW_two _ _ n).1,(eoW_two _ _ n).2]at S;have a2:qI e.nodes s=(YU 0 (2*n)).map (gx s n e.nodes):=(by rw [eR,List.range_eq_range']);have rT: ∀j,j<n->cJ f.to j=gx s n e.nodes (2*j):=fun j L=>(by rw [eT,a2,(AG _ n 0).1];simp [cJ,zO,L]);have rF: ∀j,j<n->cJ f.fr j=gx s n e.nodes (2*j+1):=fun j L=>(by rw [eF,a2,(AG _ n 0).2];simp [cJ,zO,L]);have rS: ∀k,k<2*n->ay h 1 (encI .i64) (slc e.nodes (β k)) (gx s n e.nodes k):=fun k P=>(by have R:=S.row (YJ _ (rL_mem (β:=β) (row:=gx s n e.nodes) P));have lr:(gx s n e.nodes k).length=e.nodes:=(by simp [gx]);refine .inr ⟨β k,0,none,e.nodes,by rw [lr];rfl,by rw [lr];exact Xk _,?_⟩;rw [R.load (by rw [aI (aH .i64)];omega),Xn,Xy (by rw [aI (aH .i64)];omega)]);have ll: ∀(v:Value) (R:Nat->List Int) (q:Nat),q<=1->iB h (v,1,(Xa n).map fun j=>slc e.nodes (β (2*j+q)))->(∀j,j<n->R j=gx s n e.nodes (2*j+q))->eZ h 0 v n R:=fun v R q hq g hR=>⟨(Xa n).map fun j=>slc e.nodes (β (2*j+q)),g.sl (encV_self _) (fun _=>rfl) (by decide),by simp,fun _ _=>Xd _,fun j w hw=>by
    by_cases L:j<n
    . rw [XW,Yl L]at hw;cases hw;rw [hR j L];exact⟨rS _ (by omega),fun _ _=>Xd _⟩
    . rw [XY (by simp;omega)]at hw;cases hw⟩
   have bb:=ll D (cJ f.to) 0 (by decide) (S.gown _ m0).1 rT;have bc:=ll F (cJ f.fr) 1 (by decide) (S.gown _ m1).1 rF;have aL:h.load G 0 1=some [D]:=S.ld (XD _ m0) rfl;have bd:h.load G 1 1=some [F]:=S.ld (XD _ m0) rfl;have sM:ay h 1 (encI .i64) (slc n N) f.l:=.inr ⟨N,0,none,_,by rw [Y];rfl,by rw [Y];exact Xk _,by
    have:=S.lds (b:=N) (o:=0) (n:=f.l.length*1) (XD _ m1) (by rw [aI (aH .i64)];omega);rw [Xn,Xy (by rw [aI (aH .i64)];omega)]at this;exact this⟩
   simp only [BZ,r42,r43,an,hlt,seval];refine av (ax rfl) (q:=0) (ps:=[(1,6),(1,4)]) (by kernel_rfl) ?_;simp only [BZ,cls,r0,seval];refine fh (cM S.ok (hN.gr S.gr)) ?_;intro h g;have V:=aP g (bJ (by exact ‹St NoM Q _ _ _›.ok) aL);simp only [BZ,cls,XU,r7,r8,g.load aL,g.load bd,seval];replace S:=S.call g;have k8:=bJ S.ok (g.load aL);have kn:=S.fr.n;have to:=X.to;have fr:=X.fr;have rk: ∀j,j<n->ja e.nodes (cJ f.to j)/\ja e.nodes (cJ f.fr j):=fun j L=>(by have e1:cJ f.to j=f.to[j]'(by omega):=(by unfold cJ;simp [zO,show j<f.to.length by omega]);have e2:cJ f.fr j=f.fr[j]'(by omega):=(by unfold cJ;simp [zO,show j<f.fr.length by omega]);rw [e1,e2];exact⟨X.rTo _ (XQ _),X.rFr _ (XQ _)⟩);refine cg (make_ok S.ok (sM.gr g) (by rw [Y];exact bb.gr g) (by rw [Y];exact bc.gr g) a6.n1 a7 hM (fun j L=>(rk j (by omega)).1) (fun j L=>(rk j (by omega)).2)) ?_;rintro pt h ⟨g2,hA⟩;have W:=aP g2 k8;have a3:=(sM.gr g).gr g2;replace S:=S.call g2;have be:=hA;obtain⟨bt,_,_,_,rfl,_⟩:=be.ex;have bp:=fun(t:TypeId) (p q:Operand)=>qd (E:=zB) (x:=p) (y:=q) Tryz.t72.2.2.2.2.1 (.inr ⟨⟨bt,rfl⟩,rfl⟩);simp only [BZ,cls,seval];refine⟨by simp only [aY,bj,aR,bo,aW,ne_eq,not_false_eq_true,bz,bK,aX,aV,bZ,cw,aS,Xx,r0,r5,r8,al,aE V,aT V,aE W,aT W,seval],?_⟩;have g0:=S.gr;have bf:=S.ok;clear S;have S:=Si bf;refine ah (hZ S.ok) ?_;intro h g;replace S:=S.call g;clear g;simp only [BZ,r7,(a3.gr S.gr).lenq,Y,seval];refine az (fun(k:Nat) J h=>k<=n/\St NoM _ h [] []/\J 10=ptrTo bt/\J 72=slc n N/\J 73=.int .i64 (n:Nat)/\J 74=.int .i64 k) (fun k=>n-k) ?_ 0 _ _ ⟨Xd _,S,by simp [am,al]⟩;clear S r0 r5 r6 r7 r8 r42 r43;intro k bh J h ⟨P,S,r10,r72,r73,r74⟩;have w:ag .i64 ((k:Int)+1)=((k+1:Nat):Int):=(by rw [wrap64]<;>omega);by_cases hlt:k<n
   . obtain⟨c,o,a4,a5⟩:=(a3.gr S.gr).ix (kd:=.i64) (aH .i64) (i:=k) (by omega);have hz:=hz k f.l[k] (Xw (by omega));generalize f.l[k]=z at a5 hz;simp only [BZ,r10,r72,r73,r74,an,hlt,a4,a5,encI,seval];refine ah (tabTo_ok S.ok (hA.gr S.gr) (fun i hi=>(rk i (by omega)).1.1)) ?_;intro h g;replace S:=S.call g;clear g;rw [Y,hz.1];simp only [BZ,r10,seval];refine ah (Dd S.ok (hA.gr S.gr) (fun i hi=>(rk i (by omega)).2.1)) ?_;intro h g;replace S:=S.call g;clear g;rw [Y,hz.2];simp only [BZ,seval];refine ah (hZ S.ok) ?_;intro h g;replace S:=S.call g;clear g;simp only [BZ,r74,w,seval];exact bh (k+1) _ _ (by omega) ⟨by omega,S,by simp [am,r10,r72,r73]⟩
   . simp only [BZ,ab,r10,r73,r74,an,hlt,seval];exact⟨g0.trans S.gr,_,kn,hA.gr S.gr⟩
theorem LLD.at{h:Hp}{m k n:Nat}{v:Value}{R:Nat->List Int}(r:LLD h m k v n R){i:Nat}(K:i<n)(z:R i≠ []):
 ∃ c,(∃q o,iW (some 1) v (.int .i64 (i:Nat))=some (.pointer (some ⟨q,o,none⟩))/\h.load q o 1=some [.slice (some ⟨c,0,some 1⟩) (R i).length (R i).length])/\Row h c (ints (R i)) 1/\m<=c/\c<k/\
   ∀p l',Mo (· =c) h p->l'.length=(R i).length->Row p c (ints l') 1->LLD p m k v n (fun t=>if t=i then l' else R t):=by
 obtain⟨s,a,b,c,d,e⟩:=r;obtain⟨q,o,I,A⟩:=a.ix (kd:=.i64) qw (i:=i) (by omega);have B:s[i]? =some s[i]:=Xw (by omega);obtain⟨⟨L,J⟩,C⟩:=d i _ B;obtain⟨l,D,E⟩:=J z;have f:ar s[i] l:=by rw [D];rfl
 refine⟨l,⟨q,o,I,by rw [<-D];exact A⟩,E,(C l f).1,(C l f).2.1,fun p l' H u g=>⟨s,a.mo H (fun x F e=>by subst e;exact(C _ f).2.2 F),b,c,fun j w y=>?_,e⟩⟩;refine⟨?_,(d j w y).2⟩;show WrI p w (if j=i then l' else R j);by_cases G:j=i
 . subst G;rw [if_pos rfl];rw [B]at y;cases y;rw [D];refine⟨.inr ⟨l,0,some 1,(R j).length,by rw [u],by omega,?_⟩,fun _=>⟨l,by rw [u],g⟩⟩;rw [g.load (by rw [bQ];omega),Xn,Xg,<-bQ l',List.take_length];rfl
 . rw [if_neg G];exact(d j w y).1.mo H (fun x F A=>by subst A;exact e j i w s[i] _ y B G F f)
theorem A1{B:List Arc}{N s:Nat}(h: ∀v,dOf B s v<=FAR){x:Int}(a:x∈nj B N s):0<=x/\x<=72057594037927936:=by unfold nj at a;obtain⟨v,_,rfl⟩:=List.mem_map.1 a;have:=h v;unfold FAR at this;omega
theorem exTo{b:Hp}(d:b.t.Sized b.n){a:Gra}(c:Good a){e:Value}{f:Nat}(g:bW b f e a){s:Nat}(h:s<a.nodes)(v:Nat):IsD (seen a.arcs Arc.t Arc.s) s v (dOf (seen a.arcs Arc.t Arc.s) s v):=by obtain⟨_,_,_,_,_,_,_,D,_,_,_,_,_,_,_,i,_⟩:=sU d c g h;exact(tg (i v)).2
theorem exFrom{b:Hp}(d:b.t.Sized b.n){a:Gra}(c:Good a){e:Value}{f:Nat}(g:bW b f e a){s:Nat}(h:s<a.nodes)(v:Nat):IsD (seen a.arcs Arc.s Arc.t) s v (dOf (seen a.arcs Arc.s Arc.t) s v):=by obtain⟨_,_,_,_,_,_,_,D,_,_,_,_,_,_,_,i,_⟩:=ua d c g h;exact(tg (i v)).2
theorem Ad(B:List Arc)(N s:Nat):(nj B N s).length=N:=by simp [nj]
theorem rowD_at{B:List Arc}{N s v:Nat}(a:v<N):(nj B N s).getD v 0=(dOf B s v:Nat):=by simp [nj,zO,a]
theorem bSetG_ok{k:Hp}(u:k.t.Sized k.n){l p b a c:Nat}{B:Nat->Nat}(m:iz k l p b a c B)(q:l≠p){r i:Nat}(d:b<=100)(e:a<=1000)(j:c=(a+7)/8)(x:Bool):
 Ret zB 28 [ptrTo l,.int .i64 (r:Nat),.int .i64 (i:Nat),.bool x] k fun v w=>Mo (· =p) k w/\ ∃y,iz w l p b a c y/\(Tz a c B->Tz a c y):=by
 by_cases o:r<b/\i<a
 . exact bSetZ_ok u m q o.1 o.2 d e j x
 have D: ∀{h:Hp} {f:Value},Gr k h->Fl f->bG zB 87 [ptrTo l,.int .i64 (r:Nat),.int .i64 (i:Nat),f] h (.bool false):=by
  intro h f g G;have S:=Si g.ok;have s:=m.gr g;have A: ¬(r:Int)<0:=by omega
  have E: ¬(i:Int)<0:=by omega
  by_cases H:r<b
  . have t: ¬(b:Int)<=(r:Int):=(by omega);have F:(a:Int)<=(i:Int):=(by omega);refine aa (n:=46) (rs:=[.tmp 8]) rfl Tryz.e87 rfl rfl rfl (lbt rfl) ?_;simp only [BZ,A,seval];refine ah (lu S.ok s.bits) ?_;intro h g;replace S:=S.call g;clear g;simp only [BZ,t,E,seval];refine ah (ou S.ok (s.gr S.gr).bits) ?_;intro h g;replace S:=S.call g;clear g;simp only [BZ,ab,F,seval];exact S.gr
  . have t:(b:Int)<=(r:Int):=(by omega);refine aa (n:=46) (rs:=[.tmp 8]) rfl Tryz.e87 rfl rfl rfl (lbt rfl) ?_;simp only [BZ,A,seval];refine ah (lu S.ok s.bits) ?_;intro h g;replace S:=S.call g;clear g;simp only [BZ,ab,t,seval];exact S.gr
 have S:=Si u;refine aa (n:=14) (rs:=[.tmp 8]) rfl Tryz.e28 rfl rfl rfl (lbt rfl) ?_;simp only [BZ,seval];refine ac (di (by exact qh)) S ?_;clear S;intro h I S C;simp only [BZ,seval];refine ah (D S.gr iq) ?_;intro h g;replace S:=S.call g;clear g;simp only [BZ,seval];exact⟨S.gr.fr,B,m.gr S.gr,fun z=>z⟩
theorem eZ.congr{h:Hp}{m n:Nat}{v:Value}{R f:Nat->List Int}(r:eZ h m v n R)(e: ∀i,i<n->R i=f i):eZ h m v n f:=by
 obtain⟨j,a,b,c,d⟩:=r;exact⟨j,a,b,c,fun i w g=>by
  have:=(List.getElem?_eq_some_iff.1 g).1;rw [<-e i (by omega)];exact d i w g⟩
theorem TabAt.congr{h:Hp}{m N:Nat}{p:Value}{l:List Int}{R Q a c:Nat->List Int}(t:TabAt h m p N l R Q)(d: ∀i,i<l.length->R i=a i)(e: ∀i,i<l.length->Q i=c i):TabAt h m p N l a c:=by obtain⟨b,f,g,j,k,n,o,q,r,s,u⟩:=t.ex;exact⟨b,f,g,j,k,n,o,q.congr d,r.congr e,s,u⟩
def tabL(l:List Int)(R Q:Nat->List Int):Tab:=⟨l,(Xa l.length).map R,(Xa l.length).map Q⟩
theorem jS{n i:Nat}{R:Nat->List Int}(h:i<n):cJ ((Xa n).map R) i=R i:=by unfold cJ;simp [zO,h]
theorem tabL_at{h:Hp}{m N:Nat}{p:Value}{l:List Int}{R Q:Nat->List Int}(t:TabAt h m p N l R Q):TabAt h m p N (tabL l R Q).l (cJ (tabL l R Q).to) (cJ (tabL l R Q).fr):=
 t.congr (fun i a=>(jS a).symm) (fun i a=>(jS a).symm)
theorem tabL_L{N:Nat}{l:List Int}{R Q:Nat->List Int}(d:gV N l)(k:N<=1000)(c:1<=l.length)(e: ∀i,i<l.length->ja N (R i))(f: ∀i,i<l.length->ja N (Q i)):TabL N (tabL l R Q):=by
 have a: ∀{F:Nat->List Int},(∀i,i<l.length->ja N (F i))-> ∀r∈(Xa l.length).map F,r.length=N/\ ∀x∈r,0<=x/\x<=72057594037927936:=fun {F} g r h=>by obtain⟨i,b,rfl⟩:=List.mem_map.1 h;exact g i (List.mem_range.1 b)
 exact⟨c,d.1,by simp [tabL],by simp [tabL],a e,a f,fun x j=>by
  obtain⟨i,b,rfl⟩:=List.getElem_of_mem (l:=l) j;have:=d.2 i b;simp only [zO,Xw b,Option.getD_some]at this;have c:=this.1;have m:=this.2.1;exact⟨c,by omega⟩⟩
theorem ownRows{c:Hp}(e:c.t.Sized c.n){a:Gra}(b:Good a){g:Value}{j:Nat}(f:bW c j g a){l:List Int}(k:gV a.nodes l){i:Nat}(m:i<l.length):ja a.nodes (toR a l i)/\ja a.nodes (frR a l i):=by have h:=k.2 i m;exact⟨⟨Ad _ _ _,fun x d=>A1 (fun v=>(exTo e b f (by omega) v).le) d⟩,Ad _ _ _,fun x d=>A1 (fun v=>(exFrom e b f (by omega) v).le) d⟩
end Go.Ab
end
section
namespace Go.Ab
theorem St.growB{M:Nat->Prop}{w h:Hp}{L:List (Nat×Ob)}{G:List GL}(S:St M w h L G){E:Env}{t y e:TypeId}{f k m len b md:Nat}{z vs new:List Value}{x:Value}(D:Row h b vs md)(a:len*k=vs.length)(F:E.und t=some (.slice e))(H:dP E e f k z)(I:0<f)
 (q:dV E y=some false) (g:aC h k x=some (m,new)) (A:m*k=new.length) (J:0<m) (B:0<k) (r:(vs.length+new.length)*(f+1)<=70368744177664) {ts:List TypeId}:
 ∃C v',du E h (t::y::ts) (.slice (some ⟨b,0,none⟩) len len) x=some (C,v')/\St M w C L ((v',k,vs++new)::G):=by
 obtain⟨⟨i,K,rfl,rfl⟩,N,O⟩:=H;obtain⟨p,el,j,d,s⟩:=D;have l:Nat.ble (len+m) len=false:=by
  cases q:Nat.ble (len+m) len with
  |false=>rfl|true=>exact absurd (lbt q) (by omega)
 have o:len+m<=vs.length+new.length:=by rw [<-a,<-A];have J:=Yy len B;have P:=Yy m B;omega
 have c:(Nat.ble ((len+m)*(i.bytes+1)) 70368744177664&&Nat.blt 0 i.bytes)=true:=by rw [YF (Yk (YI _ o) r)];simp only [YN];rw [Nat.blt_eq];exact I
 have u:Nat.beq z.length i.size=true:=by rw [O];exact YO _
 have v:jJ p vs.length 0 (len*i.size) new=some (p.pushAll vs.length new,vs.length+new.length):=by unfold jJ;rw [a,YO vs.length];rfl
 refine⟨h.new (.cells (p.pushAll vs.length new) (vs.length+new.length) e 1),.slice (some ⟨h.n,0,some i.size⟩) (len+m) (len+m),?_,S.newG (n:=len+m) ?_ ?_⟩
 . unfold du;simp only [q];unfold jY;simp only [F,K,g];unfold fK;rw [l];simp only [cond_false];rw [c,N];simp only [cond_true,u];unfold oL;simp only [j,v]
 . rw [Nat.add_mul,a,A,Xh]
 . refine⟨p.pushAll vs.length new,e,?_,?_,fun n=>?_⟩
   . rw [Hp.get_new _ _ S.ok,if_pos rfl,Xh]
   . rw [Xh];exact Tr.sized_pushAll _ d
   . rw [Tr.get_pushAll _ _ _ d,List.getElem?_append]
     split
     . exact s n
     . rfl
end Go.Ab

end
section
namespace Go.Ab
open Go.Proofs
set_option maxRecDepth 10000
theorem pos_first{ks:List Int}{x:Int}: ∀{i:Nat} (a:i<ks.length),ks[i]=x->(∀j (c:j<ks.length),j<i->ks[j]≠x)->pos ks x=some i:=by
 induction ks with
 |nil=>intro i a;simp at a| cons y k f=>
   intro i a b d;cases i with
   |zero=>simp only [List.getElem_cons_zero]at b;unfold pos;rw [if_pos b.symm]| succ i=>
     have g:y≠x:=d 0 (by simp) (by omega);have:=f (i:=i) (by simpa using a) (by simpa using b) (fun j c h=>by have:=d (j+1) (by simpa using c) (by omega);simpa using this);unfold pos;rw [if_neg (fun e=>g e.symm),this];rfl
theorem pos_no{ks:List Int}{x:Int}(a: ∀j (b:j<ks.length),ks[j]≠x):pos ks x=none:=by
 induction ks with
 |nil=>rfl| cons y f c=>
   have d:y≠x:=a 0 (by simp);unfold pos;rw [if_neg (fun e=>d e.symm),c (fun j b=>by have:=a (j+1) (by simpa using b);simpa using this)];rfl
theorem CO {A:Hp} (ok:A.t.Sized A.n) {v:Value} {l:List Int} (M:ay A 1 (encI .i64) v l) (hl:l.length<1000):
 Ret zB 26 [v] A fun r B=>Gr A B/\ay B 1 (encI .i64) r (norm [] l)/\ ∀c,ar r c->A.n<=c:=by
 have S:=Si ok;have fv:=M.fl;refine aa (n:=46) (rs:=[.tmp 2]) rfl Tryz.e26 rfl rfl rfl (lbt rfl) ?_;simp only [BZ];replace S:=(S.nilG (k:=1)).nilG (k:=1);refine az (fun(i:Nat) g h=>i<=l.length/\ ∃(N E:Value) (p ks:List Int),St NoM A h [] [(E,1,ints ks),(N,1,ints p)]/\norm [] l=p++norm ks (l.drop i)/\p.length=i/\ks.length<=i/\g 0=v/\g 3=N/\g 4=E/\g 5=.int .i64 i) (fun i=>l.length-i) ?_ 0 _ _ ?_
 . clear S;intro i Y g h ⟨hi,N,E,p,ks,S,hnm,lo,lk,s,C,D,t⟩;have w:ag .i64 ((i:Int)+1)=((i+1:Nat):Int):=(by rw [wrap64]<;>omega);by_cases hlt:i<l.length
   . have Z:l.drop i=l[i]::l.drop (i+1):=X7 hlt;obtain⟨c0,o0,R,y0⟩:=M.ix (kd:=.i64) (aH .i64) hlt;generalize l[i]=x at Z y0;simp only [BZ,s,t,M.lenq,an,hlt,seval];refine az (fun(a:Nat) g B=>B=h/\a<=ks.length/\(∀j (H:j<ks.length),j<a->ks[j]≠x)/\g 0=v/\g 3=N/\g 4=E/\g 5=.int .i64 i/\g 6=.int .i64 a) (fun a=>ks.length-a) ?_ 0 _ _ ?_
     . clear s C D t;rintro a T g B ⟨rfl,ha,U,s,C,D,t,O⟩;have wa:ag .i64 ((a:Int)+1)=((a+1:Nat):Int):=(by rw [wrap64]<;>omega);have P:ay B 1 (encI .i64) E ks:=(S.gown _ m0).1.sl rfl (fun _=>rfl) (by decide);have F:B.load c0 o0 1=some [.int .i64 x]:=S.gr.load y0;have I: ∀(q:Nat) (z:List Int) (u d:Value) (V:Nat->Value) (G:Hp),q=oH ks x->z=ol ks x->St NoM A G [] [(u,1,ints z),(d,1,ints (p++[(q:Int)]))]->norm [] l=(p++[(q:Int)])++norm z (l.drop (i+1)):=fun q z u d V G e1 e2 _=>(by rw [hnm,Z,norm,<-e1,<-e2,Yr];rfl);by_cases y:a<ks.length
       . obtain⟨c1,o1,x1,J⟩:=P.ix (kd:=.i64) (aH .i64) y;replace J:B.load c1 o1 1=some [.int .i64 ks[a]]:=J;by_cases Q:ks[a]=x
         . simp only [BZ];refine av (ax rfl) (q:=0) (ps:=[]) (by kernel_rfl) ?_;have W: ¬(a:Int)=(ks.length:Int):=(by omega);rw [Q]at J;simp only [BZ,cls,ab,s,C,D,t,O,P.lenq,an,y,x1,J,R,F,W,seval];refine ac (bg (by exact Tryz.t38.1) (by exact Xv) (by decide) (by rfl)) S ?_;clear S;intro h K S L;simp only [LC,aU,bD,ae,Xo,Xj,Xg,Xs,seval]at S;simp only [BZ,seval];have ps:=pos_first y Q U;have f:aC h 1 (.slice (some ⟨K,0,none⟩) 1 1)=some (1,ints [(a:Int)]):=(by simp only [aC];rw [S.lds (b:=K) (o:=0) (n:=1*1) m0 (lbt rfl)];rfl);replace S:=S.drop1;refine dX (S.grow (j:=1) (m:=1) (new:=ints [(a:Int)]) rfl Tryz.t38.1 Xv (by decide) Tryz.t38.2.2.2.2.2 f rfl (by decide) rfl (by rw [bQ,bQ];simp;omega)) ?_;clear S f;rintro G d S;simp only [LC]at S;rw [<-gX]at S;simp only [BZ,t,w,seval];refine Y (i+1) _ _ (by omega) ⟨by omega,d,E,_,ks,S,I a ks E d g G (by unfold oH;rw [ps]) (by unfold ol;rw [ps]) S,by simp [lo],by omega,by simp [am,s,D]⟩
         . simp only [BZ];refine av (ax rfl) (q:=0) (ps:=[]) (by kernel_rfl) ?_;simp only [BZ,cls,s,D,t,O,P.lenq,an,y,x1,J,R,F,Q,wa,seval];refine T (a+1) _ _ (by omega) ⟨rfl,by omega,fun j H af=>?_,by simp [am,s,C,D,t]⟩;by_cases e:j=a
           . subst e;exact Q
           . exact U j H (by omega)
       . have ea:a=ks.length:=(by omega);subst ea;have ps:=pos_no (ks:=ks) (x:=x) (fun j H=>U j H H);simp only [BZ];refine av (ax rfl) (q:=0) (ps:=[]) (by kernel_rfl) ?_;simp only [BZ,cls,ab,s,C,D,t,O,P.lenq,an,y,R,F,seval];refine ac (bg (by exact Tryz.t38.1) (by exact Xv) (by decide) (by rfl)) S ?_;clear S;intro h K S L;simp only [LC,aU,bD,ae,Xo,Xj,Xg,Xs,seval]at S;simp only [BZ,seval];have f:aC h 1 (.slice (some ⟨K,0,none⟩) 1 1)=some (1,ints [x]):=(by simp only [aC];rw [S.lds (b:=K) (o:=0) (n:=1*1) m0 (lbt rfl)];rfl);replace S:=S.drop1;refine dX (S.grow (j:=0) (m:=1) (new:=ints [x]) rfl Tryz.t38.1 Xv (by decide) Tryz.t38.2.2.2.2.2 f rfl (by decide) rfl (by rw [bQ,bQ];simp;omega)) ?_;clear S f;rintro G u S;simp only [LC]at S;rw [<-gX]at S;simp only [BZ,C,O,seval];refine ac (bg (by exact Tryz.t38.1) (by exact Xv) (by decide) (by rfl)) S ?_;clear S;intro h bu S ad;simp only [LC,aU,bD,ae,Xo,Xj,Xg,Xs,seval]at S;simp only [BZ,seval];have f:aC h 1 (.slice (some ⟨bu,0,none⟩) 1 1)=some (1,ints [((ks.length:Nat):Int)]):=(by simp only [aC];rw [S.lds (b:=bu) (o:=0) (n:=1*1) m0 (lbt rfl)];rfl);replace S:=S.drop1;refine dX (S.grow (j:=1) (m:=1) (new:=ints [((ks.length:Nat):Int)]) rfl Tryz.t38.1 Xv (by decide) Tryz.t38.2.2.2.2.2 f rfl (by decide) rfl (by rw [bQ,bQ];simp;omega)) ?_;clear S f;rintro G d S;simp only [LC]at S;rw [<-gX]at S;simp only [BZ,t,w,seval];refine Y (i+1) _ _ (by omega) ⟨by omega,d,u,_,_,S,I ks.length _ u d g G (by unfold oH;rw [ps]) (by unfold ol;rw [ps]) S,by simp [lo],by simp;omega,by simp [am,s]⟩
     . exact⟨rfl,Xd _,fun j H h=>absurd h (by omega),by simp [am,s,C,D,t]⟩
   . have X:i=l.length:=(by omega);simp only [BZ,ab,s,C,t,M.lenq,an,hlt,seval];rw [X,List.drop_length,norm,Yh]at hnm;rw [hnm];exact⟨S.gr,(S.gown _ m1).1.sl rfl (fun _=>rfl) (by decide),fun c hc=>((S.gblk m1 hc).1).elim (fun h=>h) (fun h=>h.elim)⟩
 . exact⟨Xd _,_,_,[],[],S,rfl,rfl,Xk _,by simp [am,dy]⟩
def Dz(T:Tab):Prop:= ∀i,i<T.l.length->(cJ T.to i).getD (T.l.getD i 0).toNat 0=0/\(cJ T.fr i).getD (T.l.getD i 0).toNat 0=0
def pA(N z:Nat)(r:List Int):Prop:=r.length=N/\(∀x∈r,0<=x/\x<=72057594037927936)/\r.getD z 0=0
theorem pA.ok{N z:Nat}{r:List Int}(h:pA N z r):ja N r:=⟨h.1,h.2.1⟩
theorem dz_tabL{N:Nat}{l:List Int}{R Q:Nat->List Int}(h: ∀i,i<l.length->pA N (l.getD i 0).toNat (R i)/\pA N (l.getD i 0).toNat (Q i)):Dz (tabL l R Q):=fun i a=>by have a:i<l.length:=a;simp only [tabL];rw [jS a,jS a];exact⟨(h i a).1.2.2,(h i a).2.2.2⟩
theorem yz{B:List Arc}{N s:Nat}(a:s<N):(nj B N s).getD s 0=0:=by rw [rowD_at a,(tg (B:=B) (s:=s) (v:=s) (x:=0) (.inl ⟨by decide,.nil,fun _ _=>Xd _⟩)).1];rfl
structure MadeI(has:Nat)(I:Img):Prop where
 g:Good I.g
 t:I.T.isSome=decide (has%2=1)
 c:I.C.isSome=decide (has/2%2=1)
 z: ∀T,I.T=some T->T.l[0]? =some 0/\T.l.length<=4/\gV I.g.nodes T.l
 d: ∀T,I.T=some T->Dz T
theorem yi{a j:Nat}(g:a<=255)(b:j<8){E:Env}{t:TypeId}{p q:Operand}:aZ E .and t p q (.int .u8 (a:Int)) (.int .u8 ((2 ^j:Nat):Int))=some (.int .u8 ((if a/2 ^j%2=1 then 2 ^j else 0:Nat):Int)):=by
 have h:=s8 (E:=E) (t:=t) (p:=p) (q:=q) (k:=.u8) (x:=a) (y:=2 ^j) rfl (by simp only [pw];omega) (pow8 b);rw [h];congr 2;have:a&&& 2 ^j=if a/2 ^j%2=1 then 2 ^j else 0:=by
  refine X4 fun i=>?_;rw [Nat.testBit_and,XT];have c:a.testBit j=decide (a/2 ^j%2=1):=Ye ..
  by_cases e:j=i
  . subst e;rw [c];by_cases d:a/2 ^j%2=1<;>simp [d]
  . have f: ¬i=j:=fun h=>e h.symm
    split<;>simp [XT,e,f]
 rw [this]
def TabY(h:Hp)(k:Nat)(p:Value)(N:Nat):Option Tab->Prop
 |none=>p=.pointer none|some T=>(∃m,k<m/\TabAt h m p N T.l (cJ T.to) (cJ T.fr))/\TabL N T/\Dz T/\T.l[0]? =some 0/\T.l.length<=4/\gV N T.l
theorem TabY.mo{M:Nat->Prop}{h d:Hp}{k N:Nat}{p:Value}{T:Option Tab}(t:TabY h k p N T)(g:Mo M h d)(e: ∀b,M b->b<=k):TabY d k p N T:=by
 cases T with
 |none=>exact t| some T=>
   obtain⟨⟨m,a,b⟩,c⟩:=t;exact⟨⟨m,a,b.mo g (fun x f=>by have:=e x f;omega)⟩,c⟩
theorem TabY.fl{h:Hp}{k N:Nat}{p:Value}{T:Option Tab}(t:TabY h k p N T):Fl p:=by
 cases T with
 |none=>have t:p=.pointer none:=t;subst t;exact cS|some T=>obtain⟨⟨m,_,b⟩,_⟩:=t;obtain⟨_,_,_,_,rfl,_⟩:=b.ex;exact cS
def rE(O:List Int)(i:Nat):Int:=if O.length=0 then 0 else(O.getD (i%O.length) 0).tmod 5
theorem made28_ok {h0:Hp} (ok:h0.t.Sized h0.n) {vB vO vM vN:Value} {s:Nat} {B O ms Z:List Int} (hB:SlW h0 .u8 vB B) (hO:SlW h0 .u8 vO O) (cO: ∀x∈O,0<=x/\x<=255) (hM:SlW h0 .u8 vM ms) (cY: ∀x∈ms,0<=x/\x<=255) (hN:SlW h0 .i64 vN Z) (cN: ∀x∈Z,-9223372036854775808<=x/\x<=9223372036854775807) (hh:s<=255):
 Ret zB 7 [.agg ⟨[vB,vO,vM,.int .u8 (s:Nat),vN]⟩] h0 fun r W=>Gr h0 W/\ ∃b I,r=ptrTo b/\lN W b I/\MadeI s I:=by
 have S:=Si ok;have fB:=hB.sl.fl;have fO:=hO.sl.fl;have fM:=hM.sl.fl;have fN:=hN.sl.fl;have mn:min (B.length:Int) 40=((min B.length 40:Nat):Int):=by omega
 obtain⟨cc,c2,sB,bB⟩:=hB.low (kd':=.i64) (n:=min B.length 40) Tryz.t22.1 Tryz.t5.2.2.1 (Nat.min_le_left _ _);have c4:=sB.fl;refine aa (n:=281) (rs:=[.tmp 2]) rfl Tryz.e7 rfl rfl rfl (lbt rfl) ?_;simp only [BZ,seval];refine ac (bR (by intro x e;cases e)) S ?_;clear S;intro h A S es;simp only [ae]at S;simp only [BZ,XK,XL,hB.sl.lenq,mn,c2,c4,S.ld (b:=A) (o:=0) m0 rfl,seval];refine ac (bR (by intro x e;cases e)) S ?_;clear S;intro h bd S ch;simp only [ae]at S;have c5:ay h 1 (encI .u8) cc (B.take (min B.length 40)):=sB.gr S.gr;have nB: ¬ar cc bd:=fun L=>by have:=sB.lt ok L;omega
 have c7:(B.take (min B.length 40)).length<1000000:=by rw [Xm];omega
 simp only [BZ,seval];have k0:=S.fr.n;have ap:=S.apart;simp only [keys,Xl,XI,Xq,Yh,List.nodup_cons,X5,XR,or_false,not_or]at ap;have eC:=(S.row (b:=A) m1).lt S.ok;refine step_ret (raw_ok S.ok (S.row m0) ⟨c5,nB,c7,by omega⟩) ?_;rintro v h ⟨fr,u,vx,vy,va,rfl,ad,ga,hz⟩;have n1:=ad.n1;have n2:=ad.n2;replace S:=S.drop1.step fr (fun c L=>by subst L;exact .inr ch) (fun c L e=>by simp [keys]at L;omega);have fx:=ga.X.fl;have fy:=ga.Y.fl;have fa:=ga.A.fl;have gS:=S.gr;have S0:=S;replace S:=S.base;simp only [BZ,i7];refine ac au S ?_;clear S;intro h D S et;simp only [BZ,seval];refine aw (S.store (i:=0) rfl Tryz.t37.2.1 (by intro x e;cases e) rfl (by simp only [ae,List.all_cons,List.all_nil,fx.2.1,fy.2.1,fa.2.1,Xx];rfl) (lbt rfl) ono) ?_;clear S;rintro h ⟨S,mo⟩;simp only [LC,ae,lay,Xe,Xf,seval]at S;have c8:=ga.mo S.fr (fun c L X=>by have:=hz c L;simp [keys]at X;omega);simp only [BZ,Xn,XG,XP,S.lds (b:=D) (o:=0) (n:=4) m0 (lbt rfl),seval];have q4:=(S.row (b:=D) m0).lt S.ok;have q1:=(S.row (b:=A) m1).lt S.ok;refine step_ret (yM S.ok ad.b c8) ?_;rintro v h ⟨p,rfl,g,hp⟩;replace S:=S.call g;clear g;obtain⟨P,rfl⟩:=hp.ptr;replace S:=S0.rebase S;have a0:=S.gr;have eD:=S.ok;clear S0;replace S:=S.base;simp only [LC,keys,Xl,XI,Xq]at S;rename Hp=>hC0;have z4:=(S.row (b:=D) m0).lt S.ok;have z1:=(S.row (b:=A) m1).lt S.ok;simp only [BZ,seval];refine ac (bR (by intro x e;cases e)) S ?_;clear S;intro h F S cl;simp only [ae]at S;have d1:decide (((s%2:Nat):Int)=1)=decide (s%2=1):=decide_eq_decide.2 (by omega);have a2: ∀(t:TypeId) (p q:Operand),aZ zB .and t p q (.int .u8 (s:Nat)) (.int .u8 2)=some (.int .u8 ((if s/2%2=1 then 2 else 0:Nat):Int)):=fun t p q=>yi hh (j:=1) (by decide);have d2:decide (((if s/2%2=1 then 2 else 0:Nat):Int)=2)=decide (s/2%2=1):=decide_eq_decide.2 (by split<;>omega);have a4: ∀(t:TypeId) (p q:Operand),aZ zB .and t p q (.int .u8 (s:Nat)) (.int .u8 4)=some (.int .u8 ((if s/4%2=1 then 4 else 0:Nat):Int)):=fun t p q=>yi hh (j:=2) (by decide);have d4:decide (((if s/4%2=1 then 4 else 0:Nat):Int)=4)=decide (s/4%2=1):=decide_eq_decide.2 (by split<;>omega);have a8: ∀(t:TypeId) (p q:Operand),aZ zB .and t p q (.int .u8 (s:Nat)) (.int .u8 8)=some (.int .u8 ((if s/8%2=1 then 8 else 0:Nat):Int)):=fun t p q=>yi hh (j:=3) (by decide);have d8:decide (((if s/8%2=1 then 8 else 0:Nat):Int)=8)=decide (s/8%2=1):=decide_eq_decide.2 (by split<;>omega);have n7:=cl;have nb: ∀c,c<h0.n-> ¬c∈[D,A]:=fun c L X=>by simp only [X5,XR,or_false]at X;have:=gS.n;omega
 have db: ∀c,c∈[D,A]->h0.n<=c:=fun c X=>by simp only [X5,XR,or_false]at X;have:=gS.n;omega
 have dd: ∀c,ar vM c->c<h0.n:=fun c L=>hM.sl.lt ok L;have de: ∀c,ar vO c->c<h0.n:=fun c L=>hO.sl.lt ok L;have bI: ∀c,ar vN c->c<h0.n:=fun c L=>hN.sl.lt ok L;have bi: ∀{N:Hp},Mo (· ∈[D,A]) hC0 N->bW N _ (ptrTo P) u:=fun f=>hp.mo f (fun c X=>by simp only [X5,XR,or_false]at X;omega);simp only [BZ,b_andB (show s<256 by omega),d1,S.ld (b:=A) (o:=3) m2 rfl,seval];refine mO (fun a W=> ∃pt T,St (· ∈[D,A]) hC0 W [(F,.row [ptrTo P,pt,.pointer none,.pointer none] 1),(D,.row [.int .i64 u.nodes,vx,vy,va] 1),(A,.row [vB,vO,vM,.int .u8 (s:Nat),vN] 1)] []/\TabY W F pt u.nodes T/\T.isSome=decide (s%2=1)/\a 1=ptrTo A/\a 4=ptrTo D/\a 5=ptrTo P/\a 7=ptrTo F) ?_ ?_ ?_
 . intro bk;simp only [BZ];refine ac (bg (by exact Tryz.t38.1) (by exact Xv) (by decide) (by rfl)) S ?_;clear S;intro h bt S ev;simp only [LC,aU,bD,ae,Xo,Xj,Xg,Xs,seval]at S;simp only [BZ,seval];refine nL (fun a W=> ∃(Y:Value) (l:List Int) (G:List GL),St (· ∈[D,A]) hC0 W [(bt,.row [.int .i64 0] 1),(F,.row [ptrTo P,.pointer none,.pointer none,.pointer none] 1),(D,.row [.int .i64 u.nodes,vx,vy,va] 1),(A,.row [vB,vO,vM,.int .u8 (s:Nat),vN] 1)] G/\((G=[]/\Y=.slice (some ⟨bt,0,none⟩) 1 1/\l=[0])\/G=[(Y,1,ints l)])/\gV u.nodes l/\l[0]? =some 0/\l.length<=4/\a 1=ptrTo A/\a 4=ptrTo D/\a 5=ptrTo P/\a 7=ptrTo F/\a 8=Y)
    (fun(i:Nat) a W=>i<=ms.length/\i<=3/\ ∃(Y:Value) (l:List Int) (G:List GL),St (· ∈[D,A]) hC0 W [(bt,.row [.int .i64 0] 1),(F,.row [ptrTo P,.pointer none,.pointer none,.pointer none] 1),(D,.row [.int .i64 u.nodes,vx,vy,va] 1),(A,.row [vB,vO,vM,.int .u8 (s:Nat),vN] 1)] G/\((G=[]/\Y=.slice (some ⟨bt,0,none⟩) 1 1/\l=[0])\/G=[(Y,1,ints l)])/\gV u.nodes l/\l[0]? =some 0/\l.length<=i+1/\a 1=ptrTo A/\a 4=ptrTo D/\a 5=ptrTo P/\a 7=ptrTo F/\a 8=Y/\a 9=.int .i64 i) (fun i=>ms.length-i) ?_ ?_ 0 ⟨Xd _,Xd _,_,[0],[],S,.inl ⟨rfl,rfl,rfl⟩,(mayL_nil _).push (by simp) (by decide) (by omega) (by simp),rfl,by simp,by simp [am,al]⟩
   . clear S;intro i ih a W ⟨V,hi3,Y,l,G,S,hG,hl,hl0,hli,E,H,J,r7,r8,r9⟩;have cp:=(hM.sl.gr a0).mo S.fr (fun c L=>nb c (dd c L));have a1: ∀(n:Nat) (d:List Deferred) (rc:Option (Value×Bool)) (aL:Nat->Value),aL 1=ptrTo A->aL 4=ptrTo D->aL 5=ptrTo P->aL 7=ptrTo F->aL 8=Y->JP n d rc (fun a W=> ∃(Y:Value) (l:List Int) (G:List GL),St (· ∈[D,A]) hC0 W [(bt,.row [.int .i64 0] 1),(F,.row [ptrTo P,.pointer none,.pointer none,.pointer none] 1),(D,.row [.int .i64 u.nodes,vx,vy,va] 1),(A,.row [vB,vO,vM,.int .u8 (s:Nat),vN] 1)] G/\((G=[]/\Y=.slice (some ⟨bt,0,none⟩) 1 1/\l=[0])\/G=[(Y,1,ints l)])/\gV u.nodes l/\l[0]? =some 0/\l.length<=4/\a 1=ptrTo A/\a 4=ptrTo D/\a 5=ptrTo P/\a 7=ptrTo F/\a 8=Y) .normal (LL n aL d rc) W:=fun n d rc aL e1 e4 e5 e7 e8=>cL ⟨Y,l,G,S,hG,hl,hl0,by omega,e1,e4,e5,e7,e8⟩;have sR:ay W 1 (encI .i64) Y l:=by
      rcases hG with⟨_,rfl,rfl⟩|rfl
      . exact .inr ⟨bt,0,none,1,rfl,Xk _,S.lds (b:=bt) (o:=0) (n:=1*1) m0 (lbt rfl)⟩
      . exact(S.gown _ m0).1.sl rfl (fun _=>rfl) (by decide)
     by_cases hlt:i<ms.length
     . by_cases h3:i<3
       . have c3:(i:Int)<3:=(by omega);obtain⟨c,o,a5,bl⟩:=cp.ix (kd:=.i64) (aH .u8) hlt;have hx:=cY _ (XQ hlt);obtain⟨x,ex⟩: ∃x:Nat,ms[i]=x:=⟨ms[i].toNat,by omega⟩;rw [ex]at bl hx;have nz:(u.nodes:Int)≠0:=(by omega);have wc:ag .i64 (x:Int)=(x:Int):=(by rw [wrap64]<;>omega);have tm:(x:Int).tmod (u.nodes:Int)=((x%u.nodes:Nat):Int):=(by rw [Xb (by omega)];exact(XB _ _).symm);have ai:x%u.nodes<u.nodes:=XA _ (by omega);have w:ag .i64 ((i:Int)+1)=((i+1:Nat):Int):=(by rw [wrap64]<;>omega);simp only [BZ,E,r9,hM.sl.lenq,an,hlt,c3,S.ld (b:=A) (o:=2) m3 rfl,seval];refine av (ax rfl) (q:=0) (ps:=[]) (by kernel_rfl) ?_;simp only [BZ,bV,aA,cj,cls,E,H,r9,a5,bl,encI,wc,gJ nz,tm,S.ld (b:=D) (o:=0) m2 rfl,S.ld (b:=A) (o:=2) m3 rfl,seval];generalize x%u.nodes=v at ai;clear cp;refine az (fun(k:Nat) a N=>k<=l.length/\N=W/\a 1=ptrTo A/\a 4=ptrTo D/\a 5=ptrTo P/\a 7=ptrTo F/\a 8=Y/\a 9=.int .i64 i/\a 10=.int .i64 v/\a 11=.bool (decide ((v:Int)∈l.take k))/\a 12=.int .i64 k) (fun k=>l.length-k) ?_ 0 _ _ ⟨Xd _,rfl,by simp [am,E,al,H,J,r7,r8,r9]⟩;clear E H J r7 r8 r9;rintro k cr a N ⟨hk,rfl,E,H,J,r7,r8,r9,bn,af,bq⟩;have wk:ag .i64 ((k:Int)+1)=((k+1:Nat):Int):=(by rw [wrap64]<;>omega);by_cases a3:k<l.length
         . have tk:l.take (k+1)=l.take k++[l[k]]:=Yf a3;by_cases X:(v:Int)∈l.take k
           . rw [decide_eq_true X]at af;have df:(v:Int)∈l.take (k+1):=(by rw [tk];exact YJ _ X);simp only [BZ,r8,af,bq,sR.lenq,an,a3,wk,seval];exact cr (k+1) _ _ (by omega) ⟨by omega,rfl,by simp [am,E,al,H,J,r7,r8,r9,bn,df]⟩
           . rw [decide_eq_false X]at af;obtain⟨c1,o1,i1,y1⟩:=sR.ix (kd:=.i64) (aH .i64) a3;have m2:decide (l[k]=(v:Int))=decide ((v:Int)∈l.take (k+1)):=decide_eq_decide.2 ⟨fun he=>by rw [tk,he];exact XD _ (List.mem_singleton.2 rfl),fun h=>by
              rw [tk]at h;rcases List.mem_append.1 h with h|h
              . exact absurd h X
              . exact(List.mem_singleton.1 h).symm⟩
             simp only [BZ,r8,bn,af,bq,sR.lenq,an,a3,wk,i1,y1,encI,m2,seval];exact cr (k+1) _ _ (by omega) ⟨by omega,rfl,by simp [am,E,al,H,J,r7,r8,r9,bn]⟩
         . have ek:k=l.length:=(by omega);subst ek;rw [List.take_length]at af;by_cases X:(v:Int)∈l
           . rw [decide_eq_true X]at af;simp only [BZ,r8,r9,af,bq,sR.lenq,an,a3,w,seval];exact ih (i+1) _ _ (by omega) ⟨by omega,by omega,Y,l,G,S,hG,hl,hl0,by omega,by simp [am,E,al,H,J,r7,r8]⟩
           . rw [decide_eq_false X]at af;simp only [BZ,r8,r9,bn,af,bq,sR.lenq,an,a3,seval];refine ac (bg (by exact Tryz.t38.1) (by exact Xv) (by decide) (by rfl)) S ?_;clear S;intro h bu S ew;simp only [LC,aU,bD,ae,Xo,Xj,Xg,Xs,seval]at S;simp only [BZ,seval];have bP:aC h 1 (.slice (some ⟨bu,0,none⟩) 1 1)=some (1,ints [(v:Int)]):=(by simp only [aC];rw [S.lds (b:=bu) (o:=0) (n:=1*1) m0 (lbt rfl)];rfl);replace S:=S.drop1;have cs: ∃h3 v',du zB h [38,38] Y (.slice (some ⟨bu,0,none⟩) 1 1)=some (h3,v')/\St (· ∈[D,A]) hC0 h3 [(bt,.row [.int .i64 0] 1),(F,.row [ptrTo P,.pointer none,.pointer none,.pointer none] 1),(D,.row [.int .i64 u.nodes,vx,vy,va] 1),(A,.row [vB,vO,vM,.int .u8 (s:Nat),vN] 1)] [(v',1,ints (l++[(v:Int)]))]:=by
              rcases hG with⟨rfl,rfl,rfl⟩|rfl
              . rw [gX];exact St.growB S (b:=bt) (len:=1) (m:=1) (new:=ints [(v:Int)]) (S.row m0) rfl Tryz.t38.1 Xv (by decide) Tryz.t38.2.2.2.2.2 bP rfl (by decide) (by decide) (by rw [bQ];exact lbt rfl)
              . rw [gX];exact S.grow (j:=0) (m:=1) (new:=ints [(v:Int)]) rfl Tryz.t38.1 Xv (by decide) Tryz.t38.2.2.2.2.2 bP rfl (by decide) rfl (by rw [bQ,bQ];simp;omega)
             refine dX cs ?_;clear S bP hG cs sR a1;rintro h dj S;simp only [BZ,r9,w,seval];exact ih (i+1) _ _ (by omega) ⟨by omega,by omega,dj,l++[(v:Int)],_,S,.inr rfl,hl.push (by omega) (by omega) (by omega) X,by rw [List.getElem?_append_left (by have:=(List.getElem?_eq_some_iff.1 hl0).1;exact this)];exact hl0,by simp;omega,by simp [am,E,al,H,J,r7]⟩
       . have c3: ¬(i:Int)<3:=(by omega);simp only [BZ,E,r9,hM.sl.lenq,an,hlt,c3,S.ld (b:=A) (o:=2) m3 rfl,seval];exact a1 _ _ _ _ (by simp [am,E,al]) (by simp [am,H,al]) (by simp [am,J,al]) (by simp [am,r7,al]) (by simp [am,r8])
     . simp only [BZ,E,r9,hM.sl.lenq,an,hlt,S.ld (b:=A) (o:=2) m3 rfl,seval];exact a1 _ _ _ _ (by simp [am,E,al]) (by simp [am,H,al]) (by simp [am,J,al]) (by simp [am,r7,al]) (by simp [am,r8])
   clear S;intro a W ⟨Y,l,G,S,hG,hl,hl0,hl4,E,H,J,r7,r8⟩;have sR: ∀{x:Hp} {L':List (Nat×Ob)} {G':List GL},St (· ∈[D,A]) hC0 x L' G'->(bt,Ob.row [.int .i64 0] 1)∈L'->(∀p∈G,p∈G')->ay x 1 (encI .i64) Y l:=fun {x L' G'} U hL dn=>by
    rcases hG with⟨_,rfl,rfl⟩|rfl
    . exact .inr ⟨bt,0,none,1,rfl,Xk _,U.lds (b:=bt) (o:=0) (n:=1*1) hL (lbt rfl)⟩
    . exact iB.sl (xs:=l) (enc:=encI .i64) (U.gown (Y,1,ints l) (dn _ m0)).1 rfl (fun _=>rfl) (by decide)
   have l1:1<=l.length:=(List.getElem?_eq_some_iff.1 hl0).1;have fR:Fl Y:=(sR S m0 (fun p hp=>hp)).fl;have k7: ∀{x:Hp} {L':List (Nat×Ob)} {G':List GL} {o:Ob},St (· ∈[D,A]) hC0 x L' G'->(F,o)∈L'->F<x.n:=fun U X=>(U.own _ X).2.lt U.ok;have kb: ∀c,c∈[D,A]->c<=F:=fun c X=>(by simp only [X5,XR,or_false]at X;omega);simp only [BZ,J,r7,r8,seval];refine step_ret (tabOf_ok S.ok ad (bi S.fr) (sR S m0 (fun p hp=>hp)) (by omega)) ?_;rintro pt h ⟨g,hT⟩;replace hT:=(hT.resolve_left (fun h=>h.1 hl)).2;have kn:=k7 S m1;replace S:=S.call g;have own: ∀i,i<l.length->ja u.nodes (toR u l i)/\ja u.nodes (frR u l i):=fun i V=>ownRows S.ok ad (bi S.fr) hl V;have a6: ∀i,i<l.length->pA u.nodes (l.getD i 0).toNat (toR u l i)/\pA u.nodes (l.getD i 0).toNat (frR u l i):=fun i V=>(by have hh:=own i V;have:=hl.2 i V;exact⟨⟨hh.1.1,hh.1.2,yz (by omega)⟩,⟨hh.2.1,hh.2.2,yz (by omega)⟩⟩);have tY:TabY h F pt u.nodes (some (tabL l (toR u l) (frR u l))):=⟨⟨_,kn,tabL_at hT⟩,tabL_L hl (by omega) l1 (fun i V=>(own i V).1) (fun i V=>(own i V).2),dz_tabL a6,hl0,hl4,hl⟩;have bX:=tY.fl;simp only [BZ,seval];refine aw (aq S (i:=1) rfl Tryz.t72.2.2.1 bX (zM (lbt rfl)) ono) ?_;clear S hT;rintro h ⟨S,mo⟩;simp only [LC,ae,lay,Xe,Xf,seval]at S;replace tY:=tY.mo mo (fun b e=>YR e);have dr: ∃b,pt=ptrTo b:=(by obtain⟨⟨m,_,x⟩,_⟩:=tY;obtain⟨b,_,_,_,e,_⟩:=x.ex;exact⟨b,e⟩);obtain⟨bT,rfl⟩:=dr;by_cases h4:s/4%2=1
   . have e4:decide (s/4%2=1)=true:=decide_eq_true h4;simp only [BZ,E,r7,a4,d4,e4,S.ld (b:=A) (o:=3) m3 rfl,S.ld (b:=F) (o:=1) m1 rfl,seval];obtain⟨⟨mT,_,tA⟩,tL,_,_,_⟩:=tY;have eA:=a6;replace tA:TabAt _ mT (ptrTo bT) u.nodes l (toR u l) (frR u l):=tA.congr (fun i V=>jS V) (fun i V=>jS V);obtain⟨nB,bY⟩: ∃n,n=h.n:=⟨_,rfl⟩;have kS: ∀c∈keys [(bt,.row [.int .i64 0] 1),(F,.row [ptrTo P,ptrTo bT,.pointer none,.pointer none] 1),(D,.row [.int .i64 u.nodes,vx,vy,va] 1),(A,.row [vB,vO,vM,.int .u8 (s:Nat),vN] 1)] G,c<nB:=fun c L=>(by rw [bY];exact S.key_lt L);have gN:hC0.n<=nB:=(by rw [bY];exact S.fr.n);refine step_ret (wV S.ok tA (by omega) (fun i V=>by rw [(own i V).1.1];omega) (fun i V=>by rw [(own i V).2.1];omega)) ?_;rintro _ h ⟨g,vT,vF,kk,rfl,DT,DF,y1,y2⟩;rw [<-bY]at DT y1;obtain⟨nE,ds⟩: ∃n,n=h.n:=⟨_,rfl⟩;rw [<-ds]at DF y2;replace S:=S.call g;obtain⟨ta,tn,tc,eT⟩:=DT.form;obtain⟨fa,fn,fc,eF⟩:=DF.form;simp only [BZ,seval];refine az (fun(i:Nat) a N=>i<=l.length/\ ∃(R Q:Nat->List Int),St (· ∈[D,A]) hC0 N [(bt,.row [.int .i64 0] 1),(F,.row [ptrTo P,ptrTo bT,.pointer none,.pointer none] 1),(D,.row [.int .i64 u.nodes,vx,vy,va] 1),(A,.row [vB,vO,vM,.int .u8 (s:Nat),vN] 1)] G/\LLD N nB kk vT l.length R/\LLD N kk nE vF l.length Q/\(∀i,i<l.length->pA u.nodes (l.getD i 0).toNat (R i)/\pA u.nodes (l.getD i 0).toNat (Q i))/\a 1=ptrTo A/\a 4=ptrTo D/\a 5=ptrTo P/\a 7=ptrTo F/\a 8=Y/\a 13=vT/\a 14=vF/\a 15=.int .i64 i) (fun i=>l.length-i) ?_ 0 _ _ ⟨Xd _,_,_,S,DT,DF,a6,by simp [am,E,al,H,J,r7,r8]⟩;clear S DT DF E H J r7 r8 g mo;intro i ih a N ⟨V,R,Q,S,DT,DF,hRQ,E,H,J,r7,r8,r13,r14,r15⟩;have w:ag .i64 ((i:Int)+1)=((i+1:Nat):Int):=(by rw [wrap64]<;>omega);by_cases hlt:i<l.length
     . simp only [BZ,r8,r15,(sR S m0 (fun p hp=>hp)).lenq,an,hlt,seval];refine az (fun(v:Nat) a N=>v<=u.nodes/\ ∃(R Q:Nat->List Int),St (· ∈[D,A]) hC0 N [(bt,.row [.int .i64 0] 1),(F,.row [ptrTo P,ptrTo bT,.pointer none,.pointer none] 1),(D,.row [.int .i64 u.nodes,vx,vy,va] 1),(A,.row [vB,vO,vM,.int .u8 (s:Nat),vN] 1)] G/\LLD N nB kk vT l.length R/\LLD N kk nE vF l.length Q/\(∀i,i<l.length->pA u.nodes (l.getD i 0).toNat (R i)/\pA u.nodes (l.getD i 0).toNat (Q i))/\a 1=ptrTo A/\a 4=ptrTo D/\a 5=ptrTo P/\a 7=ptrTo F/\a 8=Y/\a 13=vT/\a 14=vF/\a 15=.int .i64 i/\a 16=.int .i64 v) (fun v=>u.nodes-v) ?_ 0 _ _ ⟨Xd _,_,_,S,DT,DF,hRQ,by simp [am,E,al,H,J,r7,r8,r13,r14,r15]⟩;clear S DT DF hRQ E H J r7 r8 r13 r14 r15 R Q;intro v b0 a N ⟨hv,R,Q,S,DT,DF,hRQ,E,H,J,r7,r8,r13,r14,r15,r16⟩;have wv:ag .i64 ((v:Int)+1)=((v+1:Nat):Int):=(by rw [wrap64]<;>omega);by_cases br:v<u.nodes
       . obtain⟨cm,om,b2,b3⟩:=(sR S m0 (fun p hp=>hp)).ix (kd:=.i64) (aH .i64) hlt;have a7:=(hN.sl.gr a0).mo S.fr (fun c L=>nb c (bI c L));by_cases X:(v:Int)=l[i]
         . have dt:=X.symm;simp only [BZ,H,r8,r15,r16,an,br,b2,b3,encI,dt,wv,S.ld (b:=D) (o:=0) m2 rfl,seval];exact b0 (v+1) _ _ (by omega) ⟨by omega,R,Q,S,DT,DF,hRQ,by simp [am,E,al,H,J,r7,r8,r13,r14,r15]⟩
         by_cases hz:Z.length=0
         . have c0: ¬(0:Int)<(Z.length:Int):=(by omega);simp only [BZ,E,H,r8,r15,r16,an,br,b2,b3,encI,X,hN.sl.lenq,c0,wv,S.ld (b:=D) (o:=0) m2 rfl,S.ld (b:=A) (o:=4) m3 rfl,seval];exact b0 (v+1) _ _ (by omega) ⟨by omega,R,Q,S,DT,DF,hRQ,by simp [am,E,al,H,J,r7,r8,r13,r14,r15]⟩
         . have c0:(0:Int)<(Z.length:Int):=(by omega);have cv:(Z.length:Int)≠0:=(by omega);have w1:ag .i64 ((i:Int)+(v:Int))=((i+v:Nat):Int):=(by rw [wrap64]<;>omega);have w2:ag .i64 (3*(i:Int))=((3*i:Nat):Int):=(by rw [wrap64]<;>omega);have w3:ag .i64 (((3*i:Nat):Int)+(v:Int))=((3*i+v:Nat):Int):=(by rw [wrap64]<;>omega);have dv:((i+v:Nat):Int).tmod (Z.length:Int)=(((i+v)%Z.length:Nat):Int):=(by rw [Xb (Int.natCast_nonneg _)];exact(XB _ _).symm);have dx:((3*i+v:Nat):Int).tmod (Z.length:Int)=(((3*i+v)%Z.length:Nat):Int):=(by rw [Xb (Int.natCast_nonneg _)];exact(XB _ _).symm);simp only [BZ,E,H,r8,r15,r16,an,br,b2,b3,encI,X,hN.sl.lenq,c0,S.ld (b:=D) (o:=0) m2 rfl,S.ld (b:=A) (o:=4) m3 rfl,seval];have vz:v≠(l.getD i 0).toNat:=fun e=>(by have h1:=hl.2 i hlt;have N:l.getD i 0=l[i]:=(by simp [zO,hlt]);omega);refine av (ax rfl) (q:=0) (ps:=[]) (by kernel_rfl) ?_;have b5:R i≠ []:=fun e=>(by have:=(hRQ i hlt).1;rw [e]at this;have:=this.1;simp at this;omega);obtain⟨c,⟨q,o,e1,e2⟩,ba,dA,dF,bb⟩:=DT.at hlt b5;have bc:=(hRQ i hlt).1.1;have iv:iW (some 1) (.slice (some ⟨c,0,some 1⟩) (R i).length (R i).length) (.int .i64 (v:Nat))=some (.pointer (some ⟨c,v,none⟩)):=(by rw [mJ,eU (by omega),tN,Xj,Xg]);obtain⟨cn,on,be,ak⟩:=a7.ix (kd:=.i64) (aH .i64) (XA (i+v) (show 0<Z.length by omega));generalize Z[(i+v)%Z.length]'(XA (i+v) (by omega))=z at ak;simp only [BZ,cls,E,r13,r15,r16,hN.sl.lenq,gJ cv,w1,dv,e1,e2,be,ak,encI,iv,S.ld (b:=A) (o:=4) m3 rfl,seval];have T:=St.init1 S.ok (o:=.row (ints (R i)) 1) ba;refine dN (aq T (i:=0) rfl Tryz.t2.2.2.1 ca (by rw [bQ];omega) ono) ?_;clear T;rintro h3 ⟨T,mo⟩;simp only [Xp,ints_set]at T;have kc: ∀b∈keys [(bt,.row [.int .i64 0] 1),(F,.row [ptrTo P,ptrTo bT,.pointer none,.pointer none] 1),(D,.row [.int .i64 u.nodes,vx,vy,va] 1),(A,.row [vB,vO,vM,.int .u8 (s:Nat),vN] 1)] G,b≠c:=fun b hb e=>(by have:=kS b hb;omega);replace S:=S.step mo (fun b e=>.inr (by have e:b=c:=e;omega)) (fun b hb e=>kc b hb e);have D1:=bb _ _ mo (XV ..) (T.row m0);have D2:=DF.mo mo (fun b e=>by have e:b=c:=e;omega);have bf:pA u.nodes (l.getD i 0).toNat ((R i).set v (min (max z 0) 72057594037927936)):=⟨by rw [XV];exact bc,fun x hx=>by
            rcases Ys hx with h|h
            . exact(hRQ i hlt).1.2.1 x h
            . omega,by
            rw [zO,YK vz,<-zO];exact(hRQ i hlt).1.2.2⟩
           clear DT DF T bb ba e2;simp only [BZ,seval];have d0:=bf;have a7:=(hN.sl.gr a0).mo S.fr (fun c L=>nb c (bI c L));refine av (ax rfl) (q:=0) (ps:=[]) (by kernel_rfl) ?_;have b5:Q i≠ []:=fun e=>(by have:=(hRQ i hlt).2;rw [e]at this;have:=this.1;simp at this;omega);obtain⟨c,⟨q,o,e1,e2⟩,ba,dA,dF,bb⟩:=D2.at hlt b5;have bc:=(hRQ i hlt).2.1;have iv:iW (some 1) (.slice (some ⟨c,0,some 1⟩) (Q i).length (Q i).length) (.int .i64 (v:Nat))=some (.pointer (some ⟨c,v,none⟩)):=(by rw [mJ,eU (by omega),tN,Xj,Xg]);obtain⟨cn,on,be,ak⟩:=a7.ix (kd:=.i64) (aH .i64) (XA (3*i+v) (show 0<Z.length by omega));generalize Z[(3*i+v)%Z.length]'(XA (3*i+v) (by omega))=z at ak;simp only [BZ,cls,E,r14,r15,r16,hN.sl.lenq,gJ cv,w2,w3,dx,e1,e2,be,ak,encI,iv,S.ld (b:=A) (o:=4) m3 rfl,seval];have T:=St.init1 S.ok (o:=.row (ints (Q i)) 1) ba;refine dN (aq T (i:=0) rfl Tryz.t2.2.2.1 ca (by rw [bQ];omega) ono) ?_;clear T;rintro h3 ⟨T,mo⟩;simp only [Xp,ints_set]at T;have kc: ∀b∈keys [(bt,.row [.int .i64 0] 1),(F,.row [ptrTo P,ptrTo bT,.pointer none,.pointer none] 1),(D,.row [.int .i64 u.nodes,vx,vy,va] 1),(A,.row [vB,vO,vM,.int .u8 (s:Nat),vN] 1)] G,b≠c:=fun b hb e=>(by have:=kS b hb;omega);replace S:=S.step mo (fun b e=>.inr (by have e:b=c:=e;omega)) (fun b hb e=>kc b hb e);have D3:=bb _ _ mo (XV ..) (T.row m0);have D4:=D1.mo mo (fun b e=>by have e:b=c:=e;omega);have bf:pA u.nodes (l.getD i 0).toNat ((Q i).set v (min (max z 0) 72057594037927936)):=⟨by rw [XV];exact bc,fun x hx=>by
            rcases Ys hx with h|h
            . exact(hRQ i hlt).2.2.1 x h
            . omega,by
            rw [zO,YK vz,<-zO];exact(hRQ i hlt).2.2.2⟩
           clear D2 D1 T bb ba e2;simp only [BZ,r16,wv,seval];exact b0 (v+1) _ _ (by omega) ⟨by omega,_,_,S,D4,D3,fun j hj=>⟨by
            by_cases ej:j=i
            . subst ej;simp only [if_true];exact d0
            . simp only [if_neg ej];exact(hRQ j hj).1,by
            by_cases ej:j=i
            . subst ej;simp only [if_true];exact bf
            . simp only [if_neg ej];exact(hRQ j hj).2⟩,by simp [am,E,al,H,J,r7,r8,r13,r14,r15]⟩
       . simp only [BZ,H,r7,r8,r13,r14,r15,r16,an,br,w,S.ld (b:=D) (o:=0) m2 rfl,seval];exact ih (i+1) _ _ (by omega) ⟨by omega,R,Q,S,DT,DF,hRQ,by simp [am,E,al,H,J,r7,r8,r13,r14]⟩
     . simp only [BZ,H,r7,r8,r13,r14,r15,(sR S m0 (fun p hp=>hp)).lenq,an,hlt,S.ld (b:=D) (o:=0) m2 rfl,seval];refine step_ret (make_ok S.ok (sR S m0 (fun p hp=>hp)) DT.ll DF.ll (by omega) (by omega) hl (fun i V=>(hRQ i V).1.ok) (fun i V=>(hRQ i V).2.ok)) ?_;rintro pt h ⟨g,hT⟩;have kn:=k7 S m1;replace S:=S.call g;have tY:TabY h F pt u.nodes (some (tabL l R Q)):=⟨⟨_,kn,tabL_at hT⟩,tabL_L hl (by omega) l1 (fun i V=>(hRQ i V).1.ok) (fun i V=>(hRQ i V).2.ok),dz_tabL hRQ,hl0,hl4,hl⟩;have bX:=tY.fl;simp only [BZ,seval];refine aw (aq S (i:=1) rfl Tryz.t72.2.2.1 bX (zM (lbt rfl)) ono) ?_;clear S hT;rintro h ⟨S,mo⟩;simp only [LC,ae,lay,Xe,Xf,seval]at S;replace tY:=tY.mo mo (fun b e=>YR e);simp only [BZ];refine cL ⟨_,_,(?_ :St (· ∈[D,A]) hC0 _ _ []),tY,?_,by simp [am,E,al,H,J,r7]⟩
       . exact S.sub (YD _ _) (Yv _)
       . rw [bk];rfl
   . have e4:decide (s/4%2=1)=false:=decide_eq_false h4;simp only [BZ,E,a4,d4,e4,S.ld (b:=A) (o:=3) m3 rfl,seval];refine cL ⟨_,_,(?_ :St (· ∈[D,A]) hC0 _ _ []),tY,?_,by simp [am,E,al,H,J,r7]⟩
     . exact S.sub (YD _ _) (Yv _)
     . rw [bk];rfl
 . intro bk;simp only [BZ];exact cL ⟨_,none,S,rfl,by rw [bk];rfl,by simp [am,al]⟩
 clear S;intro a hA ⟨pt,T,S,tY,hTs,E,H,J,r7⟩;simp only [BZ,E,a2,d2,S.ld (b:=A) (o:=3) m2 rfl,seval];refine mO (fun a W=> ∃pc pf C,St (· ∈[D,A]) hC0 W [(F,.row [ptrTo P,pt,pc,pf] 1),(D,.row [.int .i64 u.nodes,vx,vy,va] 1),(A,.row [vB,vO,vM,.int .u8 (s:Nat),vN] 1)] []/\TabY W F pt u.nodes T/\CelX W pc pf u C/\C.isSome=decide (s/2%2=1)/\a 1=ptrTo A/\a 4=ptrTo D/\a 5=ptrTo P/\a 7=ptrTo F) ?_ ?_ ?_
 . intro bv;simp only [BZ];have S9:=S;replace S:=S.base;simp only [LC,keys,Xl,XI,Xq]at S;have hq: ∀{N:Hp},Mo (· ∈[F,D,A]) hA N->Mo (· ∈[D,A]) hC0 N:=fun f=>S9.fr.trans f (fun c L=>by
    rcases List.mem_cons.1 L with rfl|L
    . exact .inr n7
    . exact .inl L)
   have kb: ∀c,c∈[F,D,A]->c<=F:=fun c X=>(by simp only [X5,XR,or_false]at X;omega);replace S:=S.nilG (k:=1);refine az (fun(i:Nat) a h=>i<=u.nodes/\ ∃vQ,St (· ∈[F,D,A]) hA h [(F,.row [ptrTo P,pt,.pointer none,.pointer none] 1),(D,.row [.int .i64 u.nodes,vx,vy,va] 1),(A,.row [vB,vO,vM,.int .u8 (s:Nat),vN] 1)] [(vQ,1,ints ((Xa i).map (rE O)))]/\a 1=ptrTo A/\a 4=ptrTo D/\a 5=ptrTo P/\a 7=ptrTo F/\a 17=vQ/\a 18=.int .i64 i) (fun i=>u.nodes-i) ?_ 0 _ _ ⟨Xd _,_,S,by simp [am,E,al,H,J,r7]⟩;clear S;clear E H J r7;intro i ih a h ⟨V,vQ,S,E,H,J,r7,r17,r18⟩;have w:ag .i64 ((i:Int)+1)=((i+1:Nat):Int):=(by rw [wrap64]<;>omega);have d3:=(hO.sl.gr a0).mo (hq S.fr) (fun c L=>nb c (de c L));by_cases hlt:i<u.nodes
   . by_cases cx:O.length=0
     . have c0: ¬(0:Int)<(O.length:Int):=(by omega);simp only [BZ,E,H,r17,r18,an,hlt,hO.sl.lenq,c0,S.ld (b:=D) (o:=0) m1 rfl,S.ld (b:=A) (o:=1) m2 rfl,seval];refine ac (bg (by exact Tryz.t38.1) (by exact Xv) (by decide) (by rfl)) S ?_;clear S;intro h bs S cA;simp only [LC,aU,bD,ae,Xo,Xj,Xg,Xs,seval]at S;simp only [BZ,seval];refine dX (S.grow (j:=0) (m:=1) (new:=ints [(0:Int)]) rfl Tryz.t38.1 Xv (by decide) Tryz.t38.2.2.2.2.2 (by simp only [aC];rw [S.lds (b:=bs) (o:=0) (n:=1*1) m0 (lbt rfl)];rfl) rfl (by decide) rfl (by rw [bQ,bQ];simp;omega)) ?_;clear S;rintro h b6 S;simp only [LC]at S;replace S:=S.drop1;rw [<-gX]at S;simp only [BZ,r18,w,seval];refine ih (i+1) _ _ (by omega) ⟨by omega,b6,?_,by simp [am,E,al,H,J,r7]⟩;rw [XM,XE,List.map_singleton,show rE O i=(0:Int)from by unfold rE;rw [if_pos cx]];exact S
     . have c0:(0:Int)<(O.length:Int):=(by omega);have ai:i%O.length<O.length:=XA _ (by omega);have tm:(i:Int).tmod (O.length:Int)=((i%O.length:Nat):Int):=(by rw [Xb (by omega)];exact(XB _ _).symm);obtain⟨c,o,a5,bl⟩:=d3.ix (kd:=.i64) (aH _) ai;have cz:(O.length:Int)≠0:=(by omega);have hx:=cO _ (XQ ai);have t4:(O[i%O.length]).tmod 5=O[i%O.length]%5:=Xb hx.1;have wc:ag .i64 ((O[i%O.length]).tmod 5)=(O[i%O.length]).tmod 5:=(by rw [wrap64]<;>omega);simp only [BZ,E,H,r18,an,hlt,hO.sl.lenq,c0,S.ld (b:=D) (o:=0) m1 rfl,S.ld (b:=A) (o:=1) m2 rfl,seval];refine av (ax rfl) (q:=0) (ps:=[]) (by kernel_rfl) ?_;simp only [BZ,bV,aA,cj,cls,E,r17,r18,hO.sl.lenq,gJ cz,tm,a5,bl,encI,gJ (n:=5) (by decide),wc,S.ld (b:=A) (o:=1) m2 rfl,seval];refine ac (bg (by exact Tryz.t38.1) (by exact Xv) (by decide) (by rfl)) S ?_;clear S;intro h bs S cA;simp only [LC,aU,bD,ae,Xo,Xj,Xg,Xs,seval]at S;simp only [BZ,seval];refine dX (S.grow (j:=0) (m:=1) (new:=ints [(O[i%O.length]).tmod 5]) rfl Tryz.t38.1 Xv (by decide) Tryz.t38.2.2.2.2.2 (by simp only [aC];rw [S.lds (b:=bs) (o:=0) (n:=1*1) m0 (lbt rfl)];rfl) rfl (by decide) rfl (by rw [bQ,bQ];simp;omega)) ?_;clear S;rintro h b6 S;simp only [LC]at S;replace S:=S.drop1;rw [<-gX]at S;simp only [BZ,r18,w,seval];refine ih (i+1) _ _ (by omega) ⟨by omega,b6,?_,by simp [am,E,al,H,J,r7]⟩;rw [XM,XE,List.map_singleton,show rE O i=(O[i%O.length]).tmod 5 from by unfold rE;rw [if_neg cx];simp [zO,ai]];exact S
   . have d5 :i=u.nodes:=(by omega);simp only [BZ,H,r7,r17,r18,an,hlt,S.ld (b:=D) (o:=0) m1 rfl,seval];generalize hL:(Xa i).map (rE O)=Ls at S;have lL:Ls.length=u.nodes:=(by rw [<-hL];simp [d5]);have bL:=lmax_bd (K:=((0+Ls.length:Nat):Int)) (by omega) (yh [] Ls);have nl:=Aw [] Ls;have b8: ¬rx (norm [] Ls):=by
      rintro(h|h|h)
      . rw [h]at nl;simp at nl;omega
      . exact h (norm_idem [] Ls)
      . omega
     have sl:ay h 1 (encI .i64) vQ Ls:=(S.gown _ m0).1.sl rfl (fun _=>rfl) (by decide);refine step_ret (CO S.ok sl (by omega)) ?_;rintro v1 hP ⟨g1,s1,q1⟩;replace S:=S.call g1;simp only [BZ,seval];have k7:=S.key_lt (b:=F) (by simp [keys]);refine step_ret (xP S.ok s1 (by omega) (by omega)) ?_;rintro v2 hR ⟨g2,ea⟩;obtain⟨_,bh⟩:=ea.resolve_left (fun h=>b8 h.1);replace S:=S.call g2;obtain⟨cb,eb⟩: ∃b,v2=ptrTo b:=(by obtain⟨b,_,e,_⟩:=bh;exact⟨b,e⟩);subst eb;have ed:=yh [] Ls;have lm:(norm [] Ls).length=u.nodes:=(by omega);have mz: ∀x∈norm [] Ls,0<=x/\x<256:=fun x hx=>(by have:=ed x hx;simp only [YA]at this;omega);generalize norm [] Ls=m at bh bL b8 lm mz;have ee: ∃c:Nat->Nat,∀v,v<u.nodes->m.getD v 0=(c v:Int):=⟨fun v=>(m.getD v 0).toNat,fun v hv=>by
      have cQ:v<m.length:=(by omega);have:=(mz _ (XQ cQ)).1;have e:m.getD v 0=m[v]:=(by rw [zO,Xw cQ,Option.getD_some]);show m.getD v 0=((m.getD v 0).toNat:Int);rw [e];omega⟩
     obtain⟨cf,eg⟩:=ee;obtain⟨Mc,cT⟩: ∃M:Nat,hU m+1=(M:Int):=⟨(hU m+1).toNat,by omega⟩;replace S:St (· ∈[F,D,A]) hA hR [(F,.row [ptrTo P,pt,.pointer none,.pointer none] 1),(D,.row [.int .i64 u.nodes,vx,vy,va] 1),(A,.row [vB,vO,vM,.int .u8 (s:Nat),vN] 1)] []:=S.sub (List.Sublist.refl _) (Yv _);have S8:=S;have kz:F<hR.n:=(S8.own _ m0).2.lt S8.ok;replace S:=S.base;simp only [LC,keys,Xl,XI,Xq]at S;have b9: ∀{N:Hp},Mo (· ∈[F,D,A]) hR N->Mo (· ∈[F,D,A]) hA N:=fun f=>S8.fr.trans f (fun c L=>.inl L);have bx: ∀{N:Hp},Mo (· ∈[F,D,A]) hR N->iP N _ (ptrTo cb) m:=fun f=>bh.mo f (fun c L=>by have:=kb c L;omega);simp only [BZ,seval];refine aw (aq S (i:=0) rfl Tryz.t73.2.2.1 cS (zM (lbt rfl)) ono) ?_;clear S;rintro h ⟨S,_⟩;simp only [LC,ae,lay,Xe,Xf,seval]at S;simp only [BZ,J,r7,S.ld (b:=F) (o:=2) m0 rfl,seval];have kh:=S.fr.n;refine step_ret (ofB_ok S.ok ad (bi (hq (b9 S.fr))) ⟨bx S.fr,lm,eg⟩ cT (by omega)) ?_;rintro _ h ⟨g6,fp,fb,Bt,rfl,nf,eL,cW,BN,oB⟩;replace S:=S.call g6;have tz:Tz u.arcs.length ((u.arcs.length+7)/8) Bt:=fun r i h1 N=>by
      cases hb:bitB Bt ((u.arcs.length+7)/8) r i with
      |false=>rfl| true=>
        rcases(oB r i N).1 hb with⟨_,h⟩|⟨_,h⟩
        . have:=zG h;omega
        . simp at h
     simp only [BZ,seval];refine aw (aq S (i:=0) rfl Tryz.t74.2.2.1 cS (zM (lbt rfl)) ono) ?_;clear S;rintro h ⟨S,mo⟩;simp only [LC,ae,lay,Xe,Xf,seval]at S;have bw:iz h fp fb Mc u.arcs.length ((u.arcs.length+7)/8) Bt:=⟨mo.has (o:=.row _ 1) BN.r (fun e=>by have e:fp=F:=e;omega),mo.has (o:=.row _ 1) BN.b (fun e=>by have e:fb=F:=e;omega),BN.lt⟩;clear BN mo oB;have a1: ∀{N:Hp} {B:Nat->Nat},Mo (· ∈[F,D,A]) hR N->iz N fp fb Mc u.arcs.length ((u.arcs.length+7)/8) B->Tz u.arcs.length ((u.arcs.length+7)/8) B->TabY N F pt u.nodes T/\CelX N (ptrTo cb) (ptrTo fp) u (some (m,byB (Mc*((u.arcs.length+7)/8)) B)):=fun f b z=>⟨tY.mo (b9 f) kb,_,fp,fb,Mc,_,_,bx f,lm,rfl,cT,b,rfl,mz,b8,rfl,z⟩;by_cases h8:s/8%2=1
     . have e8:decide (s/8%2=1)=true:=decide_eq_true h8;simp only [BZ,E,r7,a8,d8,e8,S.ld (b:=A) (o:=3) m2 rfl,S.ld (b:=F) (o:=3) m0 rfl,seval];refine nL (fun a W=> ∃B,St (· ∈[F,D,A]) hR W [(F,.row [ptrTo P,pt,ptrTo cb,ptrTo fp] 1),(D,.row [.int .i64 u.nodes,vx,vy,va] 1),(A,.row [vB,vO,vM,.int .u8 (s:Nat),vN] 1)] []/\iz W fp fb Mc u.arcs.length ((u.arcs.length+7)/8) B/\Tz u.arcs.length ((u.arcs.length+7)/8) B/\a 1=ptrTo A/\a 4=ptrTo D/\a 5=ptrTo P/\a 7=ptrTo F)
        (fun(i:Nat) a W=>i<=Z.length/\i<=9/\ ∃B,St (· ∈[F,D,A]) hR W [(F,.row [ptrTo P,pt,ptrTo cb,ptrTo fp] 1),(D,.row [.int .i64 u.nodes,vx,vy,va] 1),(A,.row [vB,vO,vM,.int .u8 (s:Nat),vN] 1)] []/\iz W fp fb Mc u.arcs.length ((u.arcs.length+7)/8) B/\Tz u.arcs.length ((u.arcs.length+7)/8) B/\a 1=ptrTo A/\a 4=ptrTo D/\a 5=ptrTo P/\a 7=ptrTo F/\a 20=.int .i64 i) (fun i=>Z.length-i) ?_ ?_ 0 ⟨Xd _,Xd _,Bt,S,bw,tz,by simp [am,E,al,H,J,r7]⟩
       . clear S bw tz ih E H J r7 r17 r18 w;intro i ih a N ⟨V,hi9,B,S,bm,tz,E,H,J,r7,r20⟩;have w:ag .i64 ((i:Int)+1)=((i+1:Nat):Int):=(by rw [wrap64]<;>omega);by_cases hlt:i<Z.length
         . by_cases h9:i<9
           . have c9:(i:Int)<9:=(by omega);have a7:=(hN.sl.gr a0).mo (hq (b9 S.fr)) (fun c L=>nb c (bI c L));obtain⟨cn,on,be,ak⟩:=a7.ix (kd:=.i64) (aH .i64) hlt;generalize Z[i]=z at ak;have w5:ag .i64 ((u64 z%5:Nat):Int)=((u64 z%5:Nat):Int):=(by rw [wrap64]<;>omega);have m5:((u64 z:Nat):Int).tmod 5=((u64 z%5:Nat):Int):=(by rw [Xb (by omega)];exact(XB _ _).symm);have q5:ag .u64 (((u64 z:Nat):Int).tdiv 5)=((u64 z/5:Nat):Int):=(by have:=u64_lt z;rw [Yq (by omega),show((u64 z:Int)/5)=((u64 z/5:Nat):Int) by omega,cD rfl];simp only [pw];omega);have eh:((u64 z/5:Nat):Int).tmod 30=((u64 z/5%30:Nat):Int):=(by rw [Xb (by omega)];exact(XB _ _).symm);have ei:ag .i64 ((u64 z/5%30:Nat):Int)=((u64 z/5%30:Nat):Int):=(by rw [wrap64]<;>omega);simp only [BZ,E,r20,hN.sl.lenq,an,hlt,c9,S.ld (b:=A) (o:=4) m2 rfl,seval];refine av (ax rfl) (q:=0) (ps:=[]) (by kernel_rfl) ?_;simp only [BZ,bV,aA,cj,cls,E,r7,r20,be,ak,encI,wrap_u64,gJ (n:=5) (by decide),lI (n:=5) (by decide),gJ (n:=30) (by decide),gJ (n:=2) (by decide),w5,m5,q5,eh,ei,S.ld (b:=A) (o:=4) m2 rfl,S.ld (b:=F) (o:=3) m0 rfl,seval];refine cg (bSetG_ok S.ok bm cW (by omega) (by have:=ad.many;omega) rfl _) ?_;rintro _ h3 ⟨mo,B',em,er⟩;replace S:=S.step mo (fun b e=>.inr (by have e:b=fb:=e;omega)) (fun b hb e=>by
              have e:b=fb:=e;simp only [keys,Xl,XI,Xq,Yh]at hb;have:=kb b hb;omega)
             simp only [BZ,r20,w,seval];exact ih (i+1) _ _ (by omega) ⟨by omega,by omega,B',S,em,er tz,by simp [am,E,al,H,J,r7]⟩
           . have c9: ¬(i:Int)<9:=(by omega);simp only [BZ,E,r20,hN.sl.lenq,an,hlt,c9,S.ld (b:=A) (o:=4) m2 rfl,seval];exact cL ⟨B,S,bm,tz,by simp [am,E,al,H,J,r7]⟩
         . simp only [BZ,E,r20,hN.sl.lenq,an,hlt,S.ld (b:=A) (o:=4) m2 rfl,seval];exact cL ⟨B,S,bm,tz,by simp [am,E,al,H,J,r7]⟩
       . clear S bw tz E H J r7 r17 r18;rintro a N ⟨B,S,bm,tz,E,H,J,r7⟩;obtain⟨f1,f2⟩:=a1 S.fr bm tz;simp only [BZ];exact cL ⟨_,_,some _,S9.rebase (S8.rebase S),f1,f2,by rw [bv];rfl,by simp [am,E,al,H,J,r7]⟩
     . have e8:decide (s/8%2=1)=false:=decide_eq_false h8;obtain⟨f1,f2⟩:=a1 S.fr bw tz;simp only [BZ,E,a8,d8,e8,S.ld (b:=A) (o:=3) m2 rfl,seval];refine cL ⟨_,_,some _,S9.rebase (S8.rebase S),f1,f2,by rw [bv];rfl,by simp [am,E,al,H,J,r7]⟩
 . intro bv;simp only [BZ];exact cL ⟨_,_,none,S,tY,⟨rfl,rfl⟩,by rw [bv];rfl,by simp [am,E,al,H,J,r7]⟩
 clear S tY E H J r7;intro a hE ⟨pc,pf,C,S,tY,cX,hCs,E,H,J,r7⟩;have hn:=bi S.fr;have gZ:Gr h0 hE:=(a0.fr.trans S.fr (fun c L=>.inr (db c L)):Mo NoM h0 hE).gr;simp only [BZ,ab,r7,seval];refine⟨gZ,F,⟨u,T,C⟩,rfl,⟨_,_,_,_,S.row m0,⟨_,hn⟩,ad.b,?_,cX⟩,ad,hTs,hCs,?_,?_⟩
 . cases T with
   |none=>exact tY|some T=>obtain⟨⟨m,_,x⟩,y,_⟩:=tY;exact⟨⟨m,x⟩,y⟩
 . rintro T rfl;obtain⟨_,_,_,x⟩:=tY;exact x
 . rintro T rfl;obtain⟨_,_,x,_⟩:=tY;exact x
structure ImL(I:Img):Prop where
 g:fI I.g
 t: ∀T,I.T=some T->TabL I.g.nodes T
 c: ∀m F,I.C=some (m,F)->m.length=I.g.nodes/\F.length<=12800/\(∀x∈m,0<=x/\x<256)
theorem ImC.l{h:Hp}{l n d f:Value}{I:Img}(i:ImC h l n d f I):ImL I:=by
 obtain⟨_,a,g,j⟩:=i;refine⟨a,fun T e=>?_,fun m F e=>?_⟩
 . rw [e]at g;exact g.2
 . rw [e]at j;obtain⟨k,r,s,b,c,B,_,o,_,t,_,rfl,p,q,u,_⟩:=(j:lg h d f I.g m F);have: ¬256<hU m+1:=fun h=>q (.inr (.inr h));have:=a.many;refine⟨o,?_,p⟩;have:b*c<=256*50:=Yn (by omega) (by omega);simpa [byB]using this
theorem lN.l{h:Hp}{b:Nat}{I:Img}(i:lN h b I):ImL I:=by obtain⟨_,_,_,_,_,c⟩:=i;exact c.l
theorem graB_len{a:Gra}(h:fI a):(fo a).length<=9608:=by
 have:=h.n2;have:=h.many;have b:(a.X.zip a.Y).length=a.nodes:=by rw [List.length_zip,h.lX,h.lY];omega
 unfold fo;simp only [Xh,aF,dO qf,dO sg,b];omega
theorem yb{I:Img}(i:ImL I):((eO I).flatMap Xr).length<=100000:=by
 have f:=graB_len i.g;have g:=i.g.n2;have d: ∀T,I.T=some T->(fW T).length<=76865:=fun T e=>by have a:=i.t T e;rw [Bh a];have:=a.l2;have:T.l.length*(4+16*I.g.nodes)<=16*4804:=Yn this (by omega);omega
 unfold eO;cases a:I.T with
 | none=>
   cases b:I.C with
   |none=>simp;omega| some c=>
     obtain⟨m,F⟩:=c;have:=i.c m F b;simp [gc];omega
 | some T=>
   have:=d T a;cases b:I.C with
   |none=>simp;omega| some c=>
     obtain⟨m,F⟩:=c;have:=i.c m F b;simp [gc];omega
theorem mem_flat{l:List Sec}{x:Sec}(h:x∈l):x.2.length<=(l.flatMap Xr).length:=by
 induction l with
 |nil=>cases h
 | cons y l a=>
   rw [Xc,Xh];rcases List.mem_cons.1 h with rfl|h
   . omega
   . have:=a h;omega
theorem secs_ok{I:Img}(i:ImL I): ∀x∈eO I,pF x:=fun x a=>⟨yA I x a,by have:=mem_flat a;have:=yb i;omega⟩
theorem fI.r{a:Gra}(h:fI a):RightG a:=⟨h.n1,h.cX,h.cY,h.arcs⟩
theorem imDec1_ok{a:Hp}(b:a.t.Sized a.n){c d:Nat}:dU zB 50 [ptrTo c,ptrTo d] none a fun o e f=>(∃v,o=.ret v)/\e=none/\Gr a f:=by have S:=Si b;refine enter (n:=18) (rs:=[]) rfl Tryz.e50 rfl rfl rfl (lbt rfl) ?_;simp only [BZ,seval];exact dl (cP ⟨rfl,_,rfl,⟨_,rfl⟩,rfl,S.gr⟩)
def TabK(h:Hp)(k:Nat)(p:Value)(N:Nat):Option Tab->Prop
 |none=>p=.pointer none|some T=>(∃m,k<m/\TabAt h m p N T.l (cJ T.to) (cJ T.fr))/\TabL N T
theorem TabK.mo{M:Nat->Prop}{h d:Hp}{k N:Nat}{p:Value}{T:Option Tab}(t:TabK h k p N T)(g:Mo M h d)(e: ∀b,M b->b<=k):TabK d k p N T:=by
 cases T with
 |none=>exact t|some T=>obtain⟨⟨m,a,b⟩,c⟩:=t;exact⟨⟨m,a,b.mo g (fun x f=>by have:=e x f;omega)⟩,c⟩
theorem TabK.x{h:Hp}{k N:Nat}{p:Value}{T:Option Tab}(t:TabK h k p N T):TabX h p N T:=by
 cases T with
 |none=>exact t|some T=>obtain⟨⟨m,_,b⟩,c⟩:=t;exact⟨⟨m,b⟩,c⟩
def secT:Option Tab->List Sec
 |some T=>[(2,fW T)]|none=>[]
def secC:Option (List Int×Bs)->List Sec
 |some (m,f)=>[(3,gc m),(4,f)]|none=>[]
theorem jB(I:Img):eO I=(1,fo I.g)::(secT I.T++secC I.C):=by unfold eO;cases I.T<;>rcases I.C with _|⟨m,F⟩<;>rfl
theorem norm_rows{m:List Int}(h: ¬rx m)(f:m.length<=50){a:Nat}(g:hU m+1=((a:Nat):Int))(i: ∀x∈m,0<=x/\x<256):1<=a/\a<=100:=by
 have b:norm [] m=m:=Classical.byContradiction fun e=>h (.inr (.inl e));have c: ∀x∈m,0<=x/\x<=50:=fun x d=>by have:=yh [] m x (by rw [b];exact d);simp only [YA,Xj]at this;omega
 have:=lmax_bd (K:=50) (by decide) c;omega
def DrT(N:Nat)(T:Tab):Prop:=gV N T.l/\ ∀i,i<T.l.length->(cJ T.to i).getD (T.l.getD i 0).toNat 0=0/\(cJ T.fr i).getD (T.l.getD i 0).toNat 0=0
theorem DrT.tell{N:Nat}{T:Tab}(d:DrT N T)(i:Nat)(v:Int)(h:T.l[i]? =some v):pD N T.l.length (cJ T.to) i v=0/\pD N T.l.length (cJ T.fr) i v=0:=by
 obtain⟨b,g⟩:=List.getElem?_eq_some_iff.1 h;have e:T.l.getD i 0=v:=by simp [zO,h]
 have a:=d.1.2 i b;have f:=d.2 i b;rw [e]at a f;unfold pD;have c:(0:Int)<=(i:Int)/\(i:Int)<(T.l.length:Int)/\0<=v/\v<(N:Int):=⟨by omega,by omega,a.1,a.2.1⟩;rw [if_pos c,if_pos c];exact f
theorem BT{h0 hx:Hp}(ok:h0.t.Sized h0.n){bI:Nat}{I:Img}(hI:lN hx bI I)(hd: ∀T,I.T=some T->DrT I.g.nodes T)(bv:I.g.nodes<=50):
 Ret zB 17 [sv (cy (eO I))] h0 fun r h'=>Gr h0 h'/\ ∃b,r=.tuple #[ptrTo b,.int .i64 0]/\lN h' b I:=by
 have S:=Si ok;have il:=hI.l;have sz:=yb il;have aL:(eO I).length<=16:=by rw [jB];cases I.T<;>rcases I.C with _|⟨m,F⟩<;>exact lbt rfl
 have so:=secs_ok il;have df:=tF aL so;have hs:(cy (eO I)).length<=1000000:=by rw [nP];omega
 obtain⟨_,_,_,_,_,_,H,tx,cx⟩:=hI;refine aa (n:=78) (rs:=[.cell 2 27,.cell 3 29]) rfl Tryz.e17 rfl rfl rfl (lbt rfl) ?_;simp only [BZ];refine ac au S ?_;clear S;intro h t S bm;simp only [BZ];refine ac au S ?_;clear S;intro h D S bp;simp only [BZ,pQ (l:=cy (eO I)),seval];refine step_ret (rR S.ok hs) ?_;rintro _ h1 ⟨g,P⟩;simp only [df]at P;obtain⟨V,rfl,sl,nl⟩:=P;have kS: ∀c∈[D,t],c<_:=fun c u=>S.key_lt (by simpa [keys]using u);replace S:=S.call g;have S0:=S;have a4:=S.ok;replace S:=S.base;simp only [LC,keys,Xl,XI,Xq]at S;have a5: ∀c,ar V c->c<h1.n:=fun c u=>sl.sl.lt a4 u;have ad: ∀{N:Hp} {M:Nat->Prop},Mo M h1 N->(∀c,M c->c∈[D,t])->SlK N 2 encS V (eO I):=fun f hm=>sl.mo f (fun c u hM=>by have:=nl c u;have:=kS c (hm c hM);omega);have bw:Fl V:=sl.sl.fl;simp only [BZ,seval];refine ac au S ?_;clear S;intro h d S bq;simp only [BZ,seval];refine aw (aq S (i:=0) rfl ?_ ?_ ?_ ono) ?_
 . exact(by simp only [XF])
 . exact(by assumption)
 . exact zM (lbt rfl)
 clear S;rintro h ⟨S,E⟩;clear E;simp only [LC,ae,lay,Xe,Xf,seval]at S;simp only [BZ,seval];refine aw (aq S (i:=1) rfl ?_ ?_ ?_ ono) ?_
 . exact(by simp only [XF])
 . exact(by exact ca)
 . exact zM (lbt rfl)
 clear S;rintro h ⟨S,E⟩;clear E;simp only [LC,ae,lay,Xe,Xf,seval]at S;simp only [BZ,S.ld (b:=D) (o:=0) m1 rfl,seval];refine ac (bg (by exact Tryz.t38.1) (by exact Xv) (by decide) (by rfl)) S ?_;clear S;intro h O S Z;simp only [LC,aU,bD,ae,Xo,Xj,Xg,Xs,seval]at S;simp only [BZ,seval];have Q:=is_ok S.ok (S.ld (b:=d) (o:=0) m1 rfl) (ad S.fr (fun _ h=>h)) (v:=.slice (some ⟨O,0,none⟩) 1 1) (m:=[1]) (.inr ⟨O,0,none,1,rfl,Xk _,S.lds (b:=O) (o:=0) (n:=1*1) m0 (lbt rfl)⟩) (by omega);rw [show decide ((((eO I).take ([1]:List Int).length).map fun x=>(x.1:Int))=[1])=true from decide_eq_true (by rw [jB];rfl)]at Q;refine ah Q ?_;intro h g;clear Q;replace S:=S.drop1.call g;clear g;simp only [BZ,seval];refine ah (hZ S.ok) ?_;intro h g;replace S:=S.call g;clear g;obtain⟨c,o,z,p⟩:=(ad S.fr (fun _ h=>h)).sl.ix (kd:=.i64) dE (i:=0) (by rw [jB];exact Yg _);rw [show(eO I)[0]'(by rw [jB];exact Yg _)=(1,fo I.g) by simp [jB]]at p;have A:_=some [sv (fo I.g)]:=gf p (i:=1) (m:=1) (by decide);have k:iW (some 2) V (.int .i64 0)=_:=z;simp only [BZ,k,A,S.ld (b:=d) (o:=0) m0 rfl,seval];refine step_ret (AO S.ok H) ?_;rintro pn N ⟨g,nb,kb,hN⟩;have kg:=g.n;have a0: ∀c∈[d,D,t],c<_:=fun c u=>S.key_lt (by simpa [keys]using u);replace S:=S.call g;clear g z k p A;have S1:=S;replace S:=S.base;simp only [LC,keys,Xl,XI,Xq]at S;obtain⟨bn,rfl⟩:=hN.ptr;have af: ∀{h3:Hp},Mo (· ∈[d,D,t]) N h3->bW h3 nb (ptrTo bn) I.g:=fun f=>hN.mo f (fun c u=>XC (a0 c u) kb);have a6:SlK N 2 encS V (eO I):=ad S1.fr (fun _ h=>h);have a7: ∀c,ar V c-> ¬c∈[d,D,t]:=fun c u hM=>by
  have h3:=nl c u;have h4:=a5 c u;rcases List.mem_cons.1 hM with rfl|hM
  . omega
  . have:=kS c hM;omega
 have C: ∀{h3:Hp},Mo (· ∈[d,D,t]) N h3-> ∀{v:Value} {l:List Sec},SlK N 2 encS v l->(∀c,ar v c->ar V c)->SlK h3 2 encS v l:=by intro h3 f v l s hv;exact s.mo f (fun c u=>a7 c (hv c u))
 have us:=Tryz.t33.1;have ss:=Tryz.t50.2.1;obtain⟨v1,c1,s1,n1⟩:=a6.from (kd:=.i64) us ss dE (n:=1) (by rw [jB];exact Yw (Xd _))
 rw [jB,List.drop_succ_cons,Xn]at s1;have f1:Fl v1:=s1.sl.fl;have a8:cK zB 33 V (some (.int .i64 1)) none none=some v1:=c1;simp only [BZ,seval];refine ac (bR (by intro x e;cases e)) S ?_;clear S;intro h G S br;simp only [ae]at S;simp only [BZ,seval];refine aw (aq S (i:=3) rfl ?_ ?_ ?_ ono) ?_
 . exact(by simp only [XF])
 . exact(by exact cS)
 . exact zM (lbt rfl)
 clear S;rintro h ⟨S,E⟩;clear E;simp only [LC,ae,lay,Xe,Xf,seval]at S;simp only [BZ,XK,XL,a8,S.ld (b:=d) (o:=0) m1 rfl,seval];refine aw (aq S (i:=1) rfl ?_ ?_ ?_ ono) ?_
 . exact(by simp only [XF])
 . exact(by assumption)
 . exact zM (lbt rfl)
 clear S;rintro h ⟨S,E⟩;clear E;simp only [LC,ae,lay,Xe,Xf,seval]at S;simp only [BZ,seval];refine ac (bg (by exact Tryz.t38.1) (by exact Xv) (by decide) (by rfl)) S ?_;clear S;intro h O S Z;simp only [LC,aU,bD,ae,Xo,Xj,Xg,Xs,seval]at S;simp only [BZ,seval];have Q:=is_ok S.ok (S.ld (b:=d) (o:=0) m2 rfl) (C S.fr s1 n1) (v:=.slice (some ⟨O,0,none⟩) 1 1) (m:=[2]) (.inr ⟨O,0,none,1,rfl,Xk _,S.lds (b:=O) (o:=0) (n:=1*1) m0 (lbt rfl)⟩) (by cases I.T<;>rcases I.C with _|⟨m,F⟩<;>exact lbt rfl);have d1:decide ((((secT I.T++secC I.C).take ([2]:List Int).length).map fun x=>(x.1:Int))=[2])=I.T.isSome:=by cases I.T<;>rcases I.C with _|⟨m,F⟩<;>rfl
 rw [d1]at Q;refine ah Q ?_;intro h g;clear Q;replace S:=S.drop1.call g;clear g;have ai: ∀c,c∈[d,D,t]->c<=G:=fun c u=>by have:=a0 c u;omega
 simp only [BZ,seval];refine mO (fun W h=> ∃pt J,St (· ∈[d,D,t]) N h [(G,.row [ptrTo bn,pt,.pointer none,.pointer none] 1),(d,.row [J] 1),(D,.row [.int .i64 0] 1),(t,.row [ptrTo G] 1)] []/\TabK h G pt I.g.nodes I.T/\SlK N 2 encS J (secC I.C)/\(∀c,ar J c->ar V c)/\W 2=ptrTo t/\W 3=ptrTo D/\W 4=ptrTo d/\W 5=.func (.func 51) #[] #[ptrTo d]) ?_ ?_ ?_
 . intro w;cases X:I.T with
   |none=>rw [X]at w;cases w
   | some T=>
     rw [X]at tx s1;obtain⟨_,tl⟩:=tx;have dr:=hd T X;obtain⟨c,o,z,p⟩:=(C S.fr s1 n1).sl.ix (kd:=.i64) dE (i:=0) (Yg _);replace p:h.load c o 2=some (encS (2,fW T)):=p;have A:_=some [sv (fW T)]:=gf p (i:=1) (m:=1) (by decide);have k:iW (some 2) v1 (.int .i64 0)=_:=z;obtain⟨J,c2,L,n2⟩:=s1.from (kd:=.i64) us ss dE (n:=1) (Yw (Xd _))
     rw [show(secT (some T)++secC I.C).drop 1=secC I.C from rfl]at L;have f2:Fl J:=L.sl.fl;have ba:cK zB 33 v1 (some (.int .i64 1)) none none=some J:=c2;simp only [BZ,YS];refine av (ax rfl) (q:=0) (ps:=[(0,9)]) (by kernel_rfl) ?_;simp only [BZ,cls,k,A,S.ld (b:=t) (o:=0) m3 rfl,S.ld (b:=d) (o:=0) m1 rfl,S.ld (b:=G) (o:=0) m0 rfl,seval];have k2:=S.key_lt (b:=t) (by simp [keys]);refine cg (A7 S.ok H (by omega) (af S.fr) tl dr.1 dr.tell) ?_;rintro pt h ⟨g,mt,hm,hA⟩;have R:=aP g k2;have kx:=S.key_lt (b:=G) (by simp [keys]);replace S:=S.call g;obtain⟨bt,_,_,_,rfl,_⟩:=id hA.ex;simp only [BZ,cls,seval];refine dN (aq S (i:=0) rfl Tryz.t72.2.2.1 cS (zM (lbt rfl)) ono) ?_;clear S;rintro h ⟨S,E⟩;simp only [LC,ae,lay,Xe,Xf,seval]at S;have y:TabK h G (ptrTo bt) I.g.nodes (some T):=TabK.mo (T:=some T) ⟨⟨mt,by omega,hA⟩,tl⟩ E (fun b e=>YR e);clear E hA g;simp only [BZ,seval];refine⟨by simp only [aY,bj,aR,bo,aW,ne_eq,not_false_eq_true,bz,bK,aX,aV,bZ,cw,aS,Xx,al,aE R,aT R,seval],?_⟩;simp only [BZ,XK,XL,ba,S.ld (b:=d) (o:=0) m1 rfl,seval];refine aw (aq S (i:=1) rfl Tryz.t33.2.2.1 f2 (zM (lbt rfl)) ono) ?_;clear S;rintro h ⟨S,E⟩;simp only [LC,ae,lay,Xe,Xf,seval]at S;replace y:=y.mo E (fun b e=>by have e:b=d:=e;exact e▸ai d m0);simp only [BZ];exact cL ⟨_,J,S,y,L,fun c u=>n1 c (n2 c u),by simp [am,al]⟩
 . intro w;cases X:I.T with
   |some T=>rw [X]at w;cases w
   | none=>rw [X]at s1;simp only [BZ];exact cL ⟨_,v1,S,rfl,s1,n1,by simp [am,al]⟩
 clear S;intro W h ⟨pt,J,S,y,L,n2,r2,r3,r4,r5⟩;have S2:=S;have bb:=S.ok;have f2:Fl J:=L.sl.fl;have bB:Fl pt:=by
  cases X:I.T with
  |none=>rw [X]at y;have y:pt=.pointer none:=y;subst y;exact cS|some T=>rw [X]at y;obtain⟨⟨_,_,x⟩,_⟩:=y;obtain⟨_,_,_,_,rfl,_⟩:=x.ex;exact cS
 clear S;have S:=Si bb;simp only [BZ,r5,seval];refine ac (bg (by exact Tryz.t38.1) (by exact Xv) (by decide) (by rfl)) S ?_;clear S;intro h O S Z;simp only [LC,aU,bD,ae,Xo,Xj,Xg,Xs,seval]at S;simp only [BZ,seval];have Q:=is_ok S.ok (S.gr.load (S2.ld (b:=d) (o:=0) m1 rfl)) ((C S2.fr L n2).gr S.gr) (v:=.slice (some ⟨O,0,none⟩) 2 2) (m:=[3,4]) (.inr ⟨O,0,none,2,rfl,Xk _,S.lds (b:=O) (o:=0) (n:=2*1) m0 (lbt rfl)⟩) (by rcases I.C with _|⟨m,F⟩<;>exact lbt rfl);have d1:decide ((((secC I.C).take ([3,4]:List Int).length).map fun x=>(x.1:Int))=[3,4])=I.C.isSome:=by rcases I.C with _|⟨m,F⟩<;>rfl
 rw [d1]at Q;refine ah Q ?_;intro h g;clear Q;replace g:=S.gr.trans g;replace S:=S2.call g;replace y:=y.mo (M:=NoM) g.fr (fun _ h=>h.elim);clear g;simp only [BZ,seval];refine mO (fun W h=> ∃pc pf Y,St (· ∈[d,D,t]) N h [(G,.row [ptrTo bn,pt,pc,pf] 1),(d,.row [Y] 1),(D,.row [.int .i64 0] 1),(t,.row [ptrTo G] 1)] []/\TabK h G pt I.g.nodes I.T/\(∀(M:Nat->Prop) (h':Hp),Mo M h h'->(∀b,M b->b∈[G,d,D,t])->CelX h' pc pf I.g I.C)/\SlK N 2 encS Y []/\(∀c,ar Y c->ar V c)/\W 2=ptrTo t/\W 3=ptrTo D/\W 4=ptrTo d) ?_ ?_ ?_
 . intro w;cases hC:I.C with
   |none=>rw [hC]at w;cases w
   | some mF=>
     obtain⟨m,F⟩:=mF;rw [hC]at cx L;obtain⟨_,_,_,bs,bu,B,_,ml,rfl,mr,mB,hF,hm,mn,hl,bd⟩:=(cx:lg hx _ _ I.g m F);obtain⟨be,bh⟩:=norm_rows mn (by omega) mr hm;obtain⟨c,o,z,p⟩:=(C S.fr L n2).sl.ix (kd:=.i64) dE (i:=0) (Yg _);replace p:h.load c o 2=some (encS (3,gc m)):=p;have A:_=some [sv (gc m)]:=gf p (i:=1) (m:=1) (by decide);have k:iW (some 2) J (.int .i64 0)=_:=z;obtain⟨c',o',a1,hle⟩:=(C S.fr L n2).sl.ix (kd:=.i64) dE (i:=1) (Xk _);replace hle:h.load c' o' 2=some (encS (4,F)):=hle;have a2:_=some [sv F]:=gf hle (i:=1) (m:=1) (by decide);have ak:iW (some 2) J (.int .i64 1)=_:=a1;obtain⟨Y,c3,s3,n3⟩:=L.from (kd:=.i64) us ss dE (n:=2) (Xk _)
     replace s3:SlK N 2 encS Y []:=s3;have f3:Fl Y:=s3.sl.fl;have bi:cK zB 33 J (some (.int .i64 2)) none none=some Y:=c3;simp only [BZ,YS];refine av (ax rfl) (q:=0) (ps:=[(1,20),(1,14),(0,14)]) (by kernel_rfl) ?_;simp only [BZ,cls,r2,r4,k,A,ak,a2,S.ld (b:=t) (o:=0) m3 rfl,S.ld (b:=d) (o:=0) m1 rfl,S.ld (b:=G) (o:=0) m0 rfl,seval];have k2:=S.key_lt (b:=t) (by simp [keys]);have a3: ∀c∈[G,d,D,t],c<_:=fun c u=>S.key_lt (by simpa [keys]using u);refine cg (Bq S.ok H (af S.fr) ml mr be bh hF hm mn hl bd mB.lt) ?_;rintro _ h4 ⟨g,pc,pf,rfl,K⟩;have R:=aP g k2;replace S:=S.call g;replace y:=y.mo (M:=NoM) g.fr (fun _ h=>h.elim);have S3:=S;have nx:=S.ne (i:=0) (j:=3) rfl rfl (by decide);replace S:=S.base;simp only [LC,keys,Xl,XI,Xq]at S;obtain⟨bc,bf,rfl,rfl⟩:=(K (M:=NoM) (Gr.refl S.ok).fr (fun _ h=>h.elim)).ptr;simp only [BZ,cls,seval];refine dN (aq S (i:=0) rfl Tryz.t73.2.2.1 cS (zM (lbt rfl)) ono) ?_;clear S;rintro h ⟨S,_⟩;simp only [LC,ae,lay,Xe,Xf,seval]at S;simp only [BZ,cls,seval];refine dN (aq S (i:=0) rfl Tryz.t74.2.2.1 cS (zM (lbt rfl)) ono) ?_;clear S;rintro h ⟨S,_⟩;simp only [LC,ae,lay,Xe,Xf,seval]at S;simp only [BZ,if_false,r4,seval];refine⟨by simp only [aY,bj,aR,bo,aW,ne_eq,not_false_eq_true,bz,bK,aX,aV,bZ,cw,aS,Xx,r2,r3,r4,al,rV,aE R,aT R,im nx,im nx.symm,seval],?_⟩;simp only [BZ,XK,XL,r4,bi,S.ld (b:=d) (o:=0) m1 rfl,seval];refine aw (aq S (i:=1) rfl Tryz.t33.2.2.1 f3 (zM (lbt rfl)) ono) ?_;clear S;rintro h ⟨S,_⟩;simp only [LC,ae,lay,Xe,Xf,seval]at S;simp only [BZ];refine cL ⟨_,_,Y,S3.rebase S,y.mo S.fr (fun b w=>?_),fun M h' E hm=>K (S.fr.trans E (fun b w=>.inl (hm b w))) a3,s3,fun c u=>n2 c (n3 c u),by simp [am,r2,al,r3,r4]⟩;rcases List.mem_cons.1 w with rfl|w
     . exact Xk _
     . exact ai b w
 . intro w;cases hC:I.C with
   |some mF=>rw [hC]at w;cases w
   | none=>
     rw [hC]at L;simp only [BZ];exact cL ⟨_,_,J,S,y,fun _ _ _ _=>⟨rfl,rfl⟩,L,n2,by simp [am,r2,al,r3,r4]⟩
 clear S S2 y r2 r3 r4 r5 L n2 f2;intro W h ⟨pc,pf,Y,S,y,cX,s3,n3,r2,r3,r4⟩;have z0:((0:Nat):Int)=0:=rfl;simp only [BZ,r4,(C S.fr s3 n3).sl.lenq,z0,S.ld (b:=d) (o:=0) m1 rfl,seval];refine ah (hZ S.ok) ?_;intro h g;replace S:=S.call g;replace y:=y.mo (M:=NoM) g.fr (fun _ h=>h.elim);have gn:=g;have S4:=S;have oS:=S.ok;replace S:=S.base;simp only [LC,keys,Xl,XI,Xq]at S;simp only [BZ,r2,S.ld (b:=t) (o:=0) m3 rfl,seval];refine aw (aq S (i:=3) rfl ?_ ?_ ?_ ono) ?_
 . exact(by simp only [XF])
 . exact(by exact cS)
 . exact zM (lbt rfl)
 clear S;rintro h ⟨S,E⟩;clear E;simp only [LC,ae,lay,Xe,Xf,seval]at S;simp only [BZ,if_false,r3,seval];refine aw (aq S (i:=2) rfl ?_ ?_ ?_ ono) ?_
 . exact(by simp only [XF])
 . exact(by exact ca)
 . exact zM (lbt rfl)
 clear S;rintro h ⟨S,E⟩;clear E;simp only [LC,ae,lay,Xe,Xf,seval]at S;simp only [BZ];refine fS (un_fn (eQ (imDec1_ok S.ok) fun o rc h' ⟨a,e,g⟩=>⟨a,e,cP ⟨rfl,?_⟩⟩));have F:=(gn.fr.trans S.fr (M':=(· ∈[G,d,D,t])) (M:=(· ∈[G,d,D,t])) (fun _ h=>.inl h)).trans (M':=NoM) g.fr (fun _ h=>h.elim);have T:=S.call g;refine(fd (by decide) (by simp only [aS,al,r2,r3,seval];exact jw Tryz.t27.2.1 (T.ld m3 rfl))).2 ?_;refine(fd (by decide) (by simp only [aS,al,r2,r3,seval];exact jw Tryz.t29.2.1 (T.ld m2 rfl))).2 ?_;have U:=S0.rebase (S1.rebase (S4.rebase T));have bl:=y.mo (T.fr) (fun b w=>by
  rcases List.mem_cons.1 w with rfl|w
  . exact Xk _
  . exact ai b w)
 exact gR.2 ⟨U.gr,G,rfl,_,_,_,_,T.row m0,⟨nb,af (S4.rebase T).fr⟩,H,bl.x,cX _ _ F (fun _ h=>h)⟩
theorem re{d:Hp}(u:d.t.Sized d.n){s:Bs}{e:Bool}(v:s.length<=1000000)(w:kI s=.error e):
 bG zB 17 [sv s] d (.tuple #[.pointer none,.int .i64 (if e=true then 24 else 23)]):=by
 have S:=Si u;have f:((if e=true then(24:Int)else 23)=0)=False:=by cases e<;>simp
 refine aa (n:=78) (rs:=[.cell 2 27,.cell 3 29]) rfl Tryz.e17 rfl rfl rfl (lbt rfl) ?_;simp only [BZ];refine ac au S ?_;clear S;intro h x S m;simp only [BZ];refine ac au S ?_;clear S;intro h k S p;simp only [BZ,pQ (l:=s),seval];refine step_ret (rR S.ok v) ?_;rintro _ y ⟨g,P⟩;rw [w]at P;obtain rfl:_=_:=P;replace S:=S.call g;generalize(if e=true then(24:Int)else 23)=c at*
 simp only [BZ,seval];refine ac au S ?_;clear S;intro h z S r;simp only [BZ,seval];refine aw (aq S (i:=0) rfl ?_ ?_ ?_ ono) ?_
 . exact(by simp only [XF])
 . exact(by exact ce)
 . exact zM (lbt rfl)
 clear S;rintro h ⟨S,a⟩;clear a;simp only [LC,ae,lay,Xe,Xf,seval]at S;simp only [BZ,seval];refine aw (aq S (i:=1) rfl ?_ ?_ ?_ ono) ?_
 . exact(by simp only [XF])
 . exact(by exact ca)
 . exact zM (lbt rfl)
 clear S;rintro h ⟨S,a⟩;clear a;simp only [LC,ae,lay,Xe,Xf,seval]at S;simp only [BZ,f,S.ld (b:=k) (o:=0) m1 rfl,seval];refine av (ax rfl) (q:=0) (ps:=[(0,1)]) (by kernel_rfl) ?_;simp only [BZ,cls,S.ld (b:=k) (o:=0) m1 rfl,seval];refine dN (aq S (i:=2) rfl ?_ ?_ ?_ ono) ?_
 . exact(by simp only [XF])
 . exact(by exact cS)
 . exact zM (lbt rfl)
 clear S;rintro h ⟨S,a⟩;clear a;simp only [LC,ae,lay,Xe,Xf,seval]at S;simp only [BZ,cls,S.ld (b:=k) (o:=0) m1 rfl,seval];refine dN (aq S (i:=1) rfl ?_ ?_ ?_ ono) ?_
 . exact(by simp only [XF])
 . exact(by exact ca)
 . exact zM (lbt rfl)
 clear S;rintro h ⟨S,a⟩;clear a;simp only [LC,ae,lay,Xe,Xf,seval]at S;simp only [BZ,ab,seval];have t:=S.ne (i:=1) (j:=2) rfl rfl (by decide);refine⟨by simp only [aY,bj,aR,bo,aW,ne_eq,not_false_eq_true,bz,bK,aX,aV,bZ,cw,aS,Xx,dy,al,rV,im t,im t.symm,seval],?_⟩;refine(fd (by decide) (by simp only [aS,al,seval];exact jw Tryz.t27.2.1 (S.ld m2 rfl))).2 ?_;refine(fd (by decide) (by simp only [aS,al,seval];exact jw Tryz.t29.2.1 (S.ld m1 rfl))).2 ?_;exact gR.2 ⟨rfl,S.gr⟩
theorem Df{a:Hp}(b:a.t.Sized a.n):bG zB 13 [] a (.bool true):=ret_orc rfl ⟨rfl,Gr.refl b⟩
theorem SlW.grU{h a:Hp}{kd:IntKind}{v:Value}{l:List Int}(s:SlW h kd v l)(g:Gr h a):SlW a kd v l:=s.imp (fun h=>h) (fun⟨b,o,c,e,d,f⟩=>⟨b,o,c,e,d,g.load f⟩)
end Go.Ab
end
section
namespace Go.Ab
def xorB(s T:Bs)(a X:Nat):Prop:=T.length=s.length/\ ∀p (h:p<s.length) (b:p<T.length),T[p].toNat=s[p].toNat ^^^(if a<=p then X/2 ^(8*(p-a))%256 else 0)
theorem xorB_nil(s:Bs)(a:Nat):xorB s s a 0:=⟨rfl,fun p h b=>by simp⟩
theorem Ac(X Y q:Nat):(X ^^^Y)/2 ^(8*q)%256=(X/2 ^(8*q)%256) ^^^(Y/2 ^(8*q)%256):=by rw [show(256:Nat)=2 ^8 from rfl,<-Xu,<-Xu,<-Xu,Nat.shiftRight_xor_distrib,Nat.xor_mod_two_pow]
theorem byte_pow(m q:Nat):2 ^m/2 ^(8*q)%256=if q=m/8 then 2 ^(m%8)else 0:=by
 refine X4 fun j=>?_;rw [show(256:Nat)=2 ^8 from rfl,Yb,<-Xu,YC,XT];by_cases e:q=m/8
 . rw [if_pos e,XT];by_cases a:j<8
   . simp only [a,decide_true,YN];exact decide_eq_decide.2 (by omega)
   . simp only [a,decide_false,Bool.false_and];exact(decide_eq_false (by omega)).symm
 . rw [if_neg e,Nat.zero_testBit];by_cases a:j<8
   . simp only [a,decide_true,YN];exact decide_eq_false (by omega)
   . simp only [a,decide_false,Bool.false_and]
theorem xor_lt8{x m:Nat}(a:x<256):x ^^^2 ^(m%8)<256:=
 Nat.xor_lt_two_pow (n:=8) a (YL (by decide) (XA _ (by decide)))
theorem xorB_step{s T:Bs}{a X m:Nat}(h:xorB s T a X)(c:a+m/8<T.length):xorB s (T.set (a+m/8) (UInt8.ofNat (T[a+m/8].toNat ^^^2 ^(m%8)))) a (X ^^^2 ^m):=by
 obtain⟨j,g⟩:=h;refine⟨by rw [XV,j],fun p d b=>?_⟩;rw [XV]at b;rw [List.getElem_set];have f:=byte_pow m (p-a);by_cases e:a+m/8=p
 . subst e;rw [if_pos rfl,if_pos (Nat.le_add_right _ _),Ac];rw [show a+m/8-a=m/8 by omega]at f⊢;rw [if_pos rfl]at f;have i:=g (a+m/8) d b;rw [if_pos (Nat.le_add_right _ _),show a+m/8-a=m/8 by omega]at i;rw [f,UInt8.toNat_ofNat',Nat.mod_eq_of_lt (xor_lt8 (UInt8.toNat_lt _)),i,Nat.xor_assoc]
 . rw [if_neg e,g p d b];by_cases c:a<=p
   . rw [if_pos c,if_pos c,Ac,f,if_neg (by omega),YT]
   . rw [if_neg c,if_neg c]
def xB(f b:Nat):Nat->Nat
 |0=>0|i+1=>if b.testBit i=true then xB f b i ^^^2 ^(f+i)else xB f b i
theorem xB_eq(f b i:Nat):xB f b i=2 ^f*(b%2 ^i):=by
 induction i with
 |zero=>simp [xB,Nat.mod_one]| succ i k=>
   refine X4 fun j=>?_;rw [xB,Yz,Yb];have e:(xB f b i).testBit j=(decide (j≥f)&&(decide (j-f<i)&&b.testBit (j-f))):=by rw [k,Yz,Yb]
   split
   . next h=>
     rw [Nat.testBit_xor,XT,e];by_cases g:f<=j
     . by_cases a:j-f=i
       . rw [a,h];have:f+i=j:=(by omega);simp [g,this]
       . have c: ¬f+i=j:=(by omega);have d:decide (j-f<i+1)=decide (j-f<i):=decide_eq_decide.2 (by omega);simp only [c,decide_false,Bool.xor_false,d]
     . have c: ¬f+i=j:=(by omega);simp [g,c]
   . next h=>
     rw [e];by_cases a:j-f=i
     . rw [a];simp [h]
     . have d:decide (j-f<i+1)=decide (j-f<i):=decide_eq_decide.2 (by omega);rw [d]
theorem bit_test(b i:Nat):decide ((((b>>>i)&&& 1:Nat):Int)=1)=b.testBit i:=by rw [Ye,Nat.and_one_is_mod,Xu];exact decide_eq_decide.2 (by omega)
def fE(l:List Sec)(k:Nat):Bs:=cu l++(aK 4 (crc (cu l))++(l.take k).flatMap Xr)
theorem qz(l:List Sec)(k:Nat):(fE l k).length=11+13*l.length+((l.take k).flatMap Xr).length:=by unfold fE;rw [Xh,Xh,gP,aF];omega
theorem encF_at{l:List Sec}{k:Nat}(a:k<l.length):cy l=fE l k++(l[k].2++(l.drop (k+1)).flatMap Xr):=by
 have:l.flatMap Xr=(l.take k).flatMap Xr++(l[k].2++(l.drop (k+1)).flatMap Xr):=by
  conv=>lhs;rw [<-XZ k l,XS,X7 a,Xc]
 unfold cy fE;rw [this];simp only [Yr]
theorem set_at{l:List Sec}{k:Nat}(a:k<l.length)(b:Bs):cu l++(aK 4 (crc (cu l))++(l.set k (l[k].1,b)).flatMap Xr)=fE l k++(b++(l.drop (k+1)).flatMap Xr):=by
 have:(l.set k (l[k].1,b)).flatMap Xr=(l.take k).flatMap Xr++(b++(l.drop (k+1)).flatMap Xr):=by rw [List.set_eq_take_append_cons_drop,if_pos a,XS,Xc]
 unfold fE;rw [this];simp only [Yr]
theorem xorB_zero{s T:Bs}{a:Nat}(h:xorB s T a 0):T=s:=by refine X2 h.1 fun p b c=>UInt8.toNat_inj.1 ?_;rw [h.2 p c b];simp
theorem burst_bad{l:List Sec}(q:l.length<=16)(h: ∀x∈l,pF x){k:Nat}(j:k<l.length){T:Bs}{f e:Nat}(v:xorB (cy l) T (fE l k).length (2 ^f*e))(w:e≠0)(a:e<4294967296)(r:2 ^f*e<2 ^(8*l[k].2.length)):kI T=.error true/\T≠cy l:=by
 obtain⟨B,g⟩:=v;generalize s:fE l k=P at g;generalize t:(l.drop (k+1)).flatMap Xr=Q;have c:=encF_at j;rw [s,t]at c;have C:(cy l).length=P.length+(l[k].2.length+Q.length):=by rw [c,Xh,Xh]
 have m:((T.drop P.length).take l[k].2.length).length=l[k].2.length:=by rw [Xm,Yx];omega
 have t1:T.take P.length=P:=by refine X2 (by rw [Xm];omega) fun p a u=>UInt8.toNat_inj.1 ?_;rw [List.getElem_take,g p (by omega) (by rw [Xm]at a;omega),if_neg (by omega),YT];congr 1;rw [X8 c,X9 u]
 have t2:T.drop (P.length+l[k].2.length)=Q:=by refine X2 (by rw [Yx];omega) fun p a u=>UInt8.toNat_inj.1 ?_;rw [List.getElem_drop,g _ (by omega) (by rw [Yx]at a;omega),if_pos (by omega),Nat.div_eq_of_lt (XC r (Yi (by decide) (by omega))),Nat.zero_mod,YT];congr 1;rw [X8 c,XO (by omega),XO (by omega)];congr 1;omega
 have n:T=P++((T.drop P.length).take l[k].2.length++Q):=by
  conv=>lhs;rw [<-XZ P.length T,t1,<-XZ l[k].2.length (T.drop P.length),XH,t2]
 generalize(T.drop P.length).take l[k].2.length=b at m n;have y:crc l[k].2≠crc b:=crc_burst l[k].2 b e f m.symm (fun i D=>by
  have o:=g (P.length+i) (by omega) (by omega);rw [if_pos (by omega),show P.length+i-P.length=i by omega]at o;have z:T[P.length+i]'(by omega)=b[i]'(by omega):=by rw [X8 n,XO (by omega),X9 (by omega)];congr 1;omega
  have A:(cy l)[P.length+i]'(by omega)=l[k].2[i]:=by rw [X8 c,XO (by omega),X9 (by omega)];congr 1;omega
  rw [z,A]at o;rw [o,<-Nat.xor_assoc,Nat.xor_self,Nat.zero_xor]) w a r
 have d:=decF_bad q h j (b:=b) m (fun e=>y e.symm);rw [set_at j,s,t,<-n]at d;refine⟨d,fun e=>?_⟩;rw [e,tF q h]at d;cases d
end Go.Ab

end
section
namespace Go.Ab
open Go.Proofs
set_option maxRecDepth 10000
theorem frHead_ok{a:Hp}(b:a.t.Sized a.n){n:Nat}(g:n<=16):bG zB 19 [.int .i64 (n:Nat)] a (.int .i64 ((11+13*n:Nat):Int)):=by
 have S:=Si b;have c: ¬(n:Int)<0:=by omega
 have d: ¬(16:Int)<(n:Int):=by omega
 have e:ag .i64 ((n:Int)*13)=((13*n:Nat):Int):=by rw [wrap64]<;>omega
 have f:ag .i64 (11+((13*n:Nat):Int))=((11+13*n:Nat):Int):=by rw [wrap64]<;>omega
 refine aa (n:=12) (rs:=[.tmp 2]) rfl Tryz.e19 rfl rfl rfl (lbt rfl) ?_;simp only [BZ,ab,c,d,e,f,seval];exact S.gr
theorem conv_new{E:Env}{h:Hp}{a c e:TypeId}{l:Bs}(d:E.und a=some .string)(f:E.und c=some (.slice e))(g:E.und e=some (.int .u8))(i:l.length<=1000000):pM h (fun h=>cU (bV E h a c (sv l))) (fun b=>.slice (some ⟨b,0,some 1⟩) l.length l.length) (.row (aQ l) 1):=by
 refine⟨.cells (Tr.ofList (aQ l)) l.length e 1,fun x=>?_,fun j=>?_⟩
 . simp only [bV,aA,d,f,g,sv,lU,YF (Yk i (by decide:1000000<=1099511627776)),cond_true,bytesV,fH,cU];rfl
 . have:=nH j (aQ l) e 1;rwa [show(aQ l).length=l.length by simp [aQ]]at this
theorem wg {W:Hp} (ok:W.t.Sized W.n) {vB vO vM vN:Value} {J X bits:Int} {B O ms ns:List Int} (hB:SlW W .u8 vB B) (hO:SlW W .u8 vO O) (cO: ∀x∈O,0<=x/\x<=255) (hM:SlW W .u8 vM ms) (a2: ∀x∈ms,0<=x/\x<=255) (hN:SlW W .i64 vN ns) (cN: ∀x∈ns,-9223372036854775808<=x/\x<=9223372036854775807) (hh:0<=J/\J<=255) (ha:0<=X/\X<=65535) (hb:0<=bits/\bits<=4294967295):
 bG zB 6 [.agg ⟨[vB,vO,vM,.int .u8 J,vN]⟩,.int .u16 X,.int .u32 bits] W (.bool true):=by
 have S:=Si ok;obtain⟨J,rfl⟩:=Yc hh.1;obtain⟨a,rfl⟩:=Yc ha.1;obtain⟨u,rfl⟩:=Yc hb.1;replace hh:J<=255:=by omega
 replace ha:a<=65535:=by omega
 replace hb:u<4294967296:=by omega
 have fB:=hB.sl.fl;have fO:=hO.sl.fl;have fM:=hM.sl.fl;have fN:=hN.sl.fl;refine aa (n:=168) (rs:=[.tmp 6]) rfl Tryz.e6 rfl rfl rfl (lbt rfl) ?_;simp only [BZ,seval];refine ac (bR (by intro x e;cases e)) S ?_;clear S;intro h b3 S bd;simp only [ae]at S;simp only [BZ];refine ah (Df S.ok) ?_;intro h g;replace S:=S.call g;clear g;simp only [BZ,Xn,XG,XP,S.lds (b:=b3) (o:=0) (n:=5) m0 (lbt rfl),seval];refine step_ret (made28_ok S.ok (hB.grU S.gr) (hO.grU S.gr) cO (hM.grU S.gr) a2 (hN.grU S.gr) cN hh) ?_;rintro _ hm ⟨g,b,I,rfl,hI,mI⟩;replace S:=S.call g;have il:=hI.l;have sz:=yb il;have n2:=mI.g.n2;have H:(eO I).length<=16:=by rw [jB];cases I.T<;>rcases I.C with _|⟨m,F⟩<;>exact lbt rfl
 have so:=secs_ok il;have df:=tF H so;have hs:(cy (eO I)).length<=1000000:=by rw [nP];omega
 have ai:=fun {h1:Hp} (g:Gr hm h1)=>BT g.ok (hI.gr g) (fun T e=>⟨(mI.z T e).2.2,mI.d T e⟩) (by omega);simp only [BZ,seval];refine step_ret (BV S.ok hI sz) ?_;rintro _ h1 ⟨g,rfl⟩;have gm:=g;replace S:=S.call g;simp only [BZ,seval];refine step_ret (rR S.ok hs) ?_;rintro _ N ⟨g,P⟩;simp only [df]at P;obtain⟨vl,rfl,Q,nl⟩:=P;replace gm:=gm.trans g;replace S:=S.call g;have g0:=S.gr;have a3:=S.ok;clear S g nl;have S:=Si a3;obtain⟨l,hl⟩: ∃l,l=eO I:=⟨_,rfl⟩;rw [<-hl]at H so df hs Q ai;have be:(l.flatMap Xr).length<=100000:=by rw [hl];exact sz
 rw [<-hl];simp only [BZ,Q.sl.lenq,seval];refine ah (frHead_ok S.ok H) ?_;intro h g;replace S:=S.call g;clear g;simp only [BZ,seval];have p0:=qz l 0;rw [XP,Xi,YA,Nat.add_zero]at p0;have lk: ∀k,((l.take k).flatMap Xr).length<=(l.flatMap Xr).length:=fun k=>by
  conv=>rhs;rw [<-XZ k l,XS,Xh]
  omega
 refine nL (fun j h=>St NoM N h [] []/\j 1=.int .u16 (a:Nat)/\j 8=sv (cy l)/\j 13=.int .i64 (11+13*l.length:Nat)) (fun(k:Nat) j h=>k<=l.length/\St NoM N h [] []/\j 1=.int .u16 (a:Nat)/\j 2=.int .u32 (u:Nat)/\j 8=sv (cy l)/\j 10=vl/\j 12=.int .i64 ((fE l k).length:Nat)/\j 13=.int .i64 (11+13*l.length:Nat)/\j 14=.int .i64 (k:Nat)) (fun k=>l.length-k) ?_ ?_ 0 ⟨Xd _,S,by simp [am,dy],by simp [am,dy],by simp [am],by simp [am],by rw [p0];simp [am],by simp [am]⟩
 . clear S;intro k ih j h ⟨hk,S,v,z,r8,d,r,r13,r14⟩;have w:ag .i64 ((k:Int)+1)=((k+1:Nat):Int):=(by rw [wrap64]<;>omega);by_cases hlt:k<l.length
   . have bh:=lk (k+1);have pk:=qz l k;have ak:(fE l (k+1)).length=(fE l k).length+l[k].2.length:=(by rw [qz,qz,Yf hlt,XS,Xh];simp;omega);have bk:=qz l (k+1);obtain⟨c,o,A,a4⟩:=Q.sl.ix (kd:=.i64) dE hlt;have D:N.load c (o+1) 1=some [sv l[k].2]:=gf a4 (i:=1) (m:=1) (by decide);have K:=S.gr.load D;obtain⟨y,Y⟩: ∃y,y=l[k].2.length:=⟨_,rfl⟩;rw [<-Y]at ak;have w8:ag .i64 (8*(y:Int))=((8*y:Nat):Int):=(by rw [wrap64]<;>omega);have wf:ag .i64 (((fE l k).length:Int)+(y:Int))=((fE l (k+1)).length:Int):=(by rw [ak,wrap64]<;>omega);have L: ∀{C:Nat->Value} {h':Hp},St NoM N h' [] []->C 1=.int .u16 (a:Nat)->C 2=.int .u32 (u:Nat)->C 8=sv (cy l)->C 10=vl->C 12=.int .i64 ((fE l (k+1)).length:Nat)->C 13=.int .i64 (11+13*l.length:Nat)->C 14=.int .i64 ((k+1:Nat):Int)->Run zB (lim zB) _ _ _ .normal (LL 168 C [] none) h':=fun S q1 q2 q8 a5 a6 a7 a8=>ih (k+1) _ _ (by omega) ⟨by omega,S,q1,q2,q8,a5,a6,a7,a8⟩;by_cases bl:y=0
     . have y0:(0<((8*y:Nat):Int))=False:=eq_false (by omega);simp only [BZ,d,r,r14,Q.sl.lenq,an,hlt,A,K,dK,<-Y,w8,y0,wf,w,seval];exact L S (by simp [am,v]) (by simp [am,z]) (by simp [am,r8]) (by simp [am,d]) (by simp [am]) (by simp [am,r13]) (by simp [am])
     have y0:(0<((8*y:Nat):Int))=True:=eq_true (by omega);by_cases bm:u=0
     . have b0:(0<(u:Int))=False:=eq_false (by omega);simp only [BZ,z,d,r,r14,Q.sl.lenq,an,hlt,A,K,dK,<-Y,w8,y0,b0,wf,w,seval];exact L S (by simp [am,v]) (by simp [am,z]) (by simp [am,r8]) (by simp [am,d]) (by simp [am]) (by simp [am,r13]) (by simp [am])
     have b0:(0<(u:Int))=True:=eq_true (by omega);simp only [BZ,z,r8,d,r14,Q.sl.lenq,an,hlt,A,K,dK,<-Y,w8,y0,b0,seval];refine ac (conv_new Tryz.t9.1 Tryz.t22.1 Tryz.t5.1 hs) S ?_;clear S;intro h R S bf;have wa:ag .i64 (a:Int)=(a:Int):=(by rw [wrap64]<;>omega);have y8:((8*y:Nat):Int)≠0:=(by omega);have tm:(a:Int).tmod ((8*y:Nat):Int)=((a%(8*y):Nat):Int):=(by rw [Xb (by omega)];exact(XB _ _).symm);have hf:a%(8*y)<8*y:=XA _ (by omega);simp only [BZ,bV,aA,cj,v,wa,gJ y8,tm,seval];generalize a%(8*y)=f at hf;have lE:(cy l).length=11+13*l.length+(l.flatMap Xr).length:=nP l;refine nL (fun j h=> ∃(i:Nat) (T:Bs),i<=32/\f+i<=8*y/\St NoM N h [(R,.row (aQ T) 1)] []/\xorB (cy l) T (fE l k).length (xB f u i)/\j 1=.int .u16 (a:Nat)/\j 2=.int .u32 (u:Nat)/\j 8=sv (cy l)/\j 10=vl/\j 12=.int .i64 ((fE l k).length:Nat)/\j 13=.int .i64 (11+13*l.length:Nat)/\j 14=.int .i64 (k:Nat)/\j 16=.slice (some ⟨R,0,some 1⟩) (cy l).length (cy l).length) (fun(i:Nat) j h=>i<=32/\f+i<=8*y/\ ∃T:Bs,St NoM N h [(R,.row (aQ T) 1)] []/\xorB (cy l) T (fE l k).length (xB f u i)/\j 1=.int .u16 (a:Nat)/\j 2=.int .u32 (u:Nat)/\j 8=sv (cy l)/\j 10=vl/\j 12=.int .i64 ((fE l k).length:Nat)/\j 13=.int .i64 (11+13*l.length:Nat)/\j 14=.int .i64 (k:Nat)/\j 15=.int .i64 (8*y:Nat)/\j 16=.slice (some ⟨R,0,some 1⟩) (cy l).length (cy l).length/\j 17=.int .i64 (f:Nat)/\j 18=.int .i64 (i:Nat)) (fun i=>32-i) ?_ ?_ 0 ⟨Xd _,Nat.le_of_lt hf,cy l,S,xorB_nil _ _,by simp [am,v,z,r8,d,r,r13,r14]⟩
     . clear S v z r8 d r r13 r14;clear L ih;intro i ih j h ⟨hi,U,T,S,M,v,z,r8,d,r,r13,r14,r15,s,r17,r18⟩;have wi:ag .i64 ((i:Int)+1)=((i+1:Nat):Int):=(by rw [wrap64]<;>omega);have V:ag .i64 ((f:Int)+(i:Int))=((f+i:Nat):Int):=(by rw [wrap64]<;>omega);by_cases bn:i<32;rotate_left
       . have c1:((i:Int)<32)=False:=eq_false (by omega);simp only [BZ,r18,c1,seval];exact cL ⟨i,T,hi,U,S,M,by simp [am,v,z,r8,d,r,r13,r14,s]⟩
       have c1:((i:Int)<32)=True:=eq_true (by omega);by_cases Z:f+i<8*y;rotate_left
       . simp only [BZ,r15,r17,r18,c1,V,an,Z,seval];exact cL ⟨i,T,hi,U,S,M,by simp [am,v,z,r8,d,r,r13,r14,s]⟩
       have aL:=fun(t:TypeId) (p q:Operand)=>s9 (E:=zB) (t:=t) (p:=p) (q:=q) (k:=.u32) (k':=.i64) (x:=u) (y:=i) (by show _<=32;omega);have a0:u>>>i<4294967296:=(by rw [Xu];exact Nat.lt_of_le_of_lt (Nat.div_le_self _ _) hb);have bi:=bit_test u i;cases G:u.testBit i with
       | false=>rw [G]at bi;simp only [BZ,z,r15,r17,r18,c1,V,an,Z,aL,b_and1 a0,bi,wi,seval];exact ih (i+1) _ _ (by omega) ⟨by omega,by omega,T,S,by rw [xB,G];exact M,by simp [am,v,z,r8,d,r,r13,r14,r15,s,r17]⟩| true=>
         rw [G]at bi;have lT:=M.1;have hp:(fE l k).length+(f+i)/8<T.length:=(by omega);have wq:ag .i64 (((f+i:Nat):Int).tdiv 8)=(((f+i)/8:Nat):Int):=(by rw [Yq (by omega),show(((f+i:Nat):Int)/8)=(((f+i)/8:Nat):Int) by omega,wrap64]<;>omega);have wp:ag .i64 (((fE l k).length:Int)+(((f+i)/8:Nat):Int))=(((fE l k).length+(f+i)/8:Nat):Int):=(by rw [wrap64]<;>omega);have t8:((f+i:Nat):Int).tmod 8=(((f+i)%8:Nat):Int):=(by rw [Xb (by omega)];omega);have ba:=fun(t:TypeId) (p q:Operand)=>b_shl8 (E:=zB) (t:=t) (p:=p) (q:=q) (k:=.i64) (i:=(f+i)%8) (XA _ (by decide));have x8:=fun(t:TypeId) (p q:Operand)=>tU (E:=zB) (t:=t) (p:=p) (q:=q) (k:=.u8) (x:=T[(fE l k).length+(f+i)/8].toNat) (y:=2 ^((f+i)%8)) rfl (UInt8.toNat_lt _) (YL (by decide) (XA _ (by decide)));have lv:h.load R ((fE l k).length+(f+i)/8) 1=some [.int .u8 (T[(fE l k).length+(f+i)/8].toNat:Int)]:=S.ld m0 (by rw [aQ,XW,Xw hp];rfl);have bb:(fE l k).length+(f+i)/8<(cy l).length:=(by omega);simp only [BZ,z,r15,r17,r18,c1,V,an,Z,aL,b_and1 a0,bi,seval];refine av (ax rfl) (q:=0) (ps:=[]) (by kernel_rfl) ?_;simp only [BZ,cls,r,s,r17,r18,V,lI (n:=8) (by decide),wq,wp,eU bb,lv,gJ (n:=8) (by decide),t8,ba,x8,seval];refine dN (aq S (i:=0) rfl Tryz.t5.2.2.1 ca (by rw [dM];exact hp) ono) ?_;clear S;rintro h ⟨S,_⟩;simp only [LC]at S;rw [show(aQ T).set ((fE l k).length+(f+i)/8) (.int .u8 ((T[(fE l k).length+(f+i)/8].toNat ^^^2 ^((f+i)%8):Nat):Int))=aQ (T.set ((fE l k).length+(f+i)/8) (UInt8.ofNat (T[(fE l k).length+(f+i)/8].toNat ^^^2 ^((f+i)%8)))) by
          unfold aQ;rw [List.map_set,UInt8.toNat_ofNat',Nat.mod_eq_of_lt (xor_lt8 (UInt8.toNat_lt _))]]at S
         have bc:=xorB_step M hp;simp only [BZ,r18,wi,seval];exact ih (i+1) _ _ (by omega) ⟨by omega,by omega,_,S,by rw [xB,if_pos G];exact bc,by simp [am,v,z,r8,d,r,r13,r14,r15,s,r17]⟩
     . clear S v z r8 d r r13 r14;rintro j h ⟨i,T,hi,U,S,M,v,z,r8,d,r,r13,r14,s⟩;have lT:=M.1;rw [xB_eq]at M;have af: ∀{h:Hp},St NoM N h [(R,.row (aQ T) 1)] []->strOf h (.slice (some ⟨R,0,some 1⟩) (cy l).length (cy l).length)=some (sv T):=fun S=>vP (.inr ⟨R,0,some 1,_,by rw [lT],by rw [lT];exact Xk _,by
        have:=S.lds (b:=R) (o:=0) (n:=T.length*1) m0 (by rw [dM];omega);rw [Xn,Xy (by rw [dM];omega)]at this;rw [byF];exact this⟩)
       simp only [BZ,bV,aA,s,af S,seval];by_cases he:u%2 ^i=0
       . rw [he,Nat.mul_zero]at M;have hT:=xorB_zero M;subst hT;refine step_ret (ai (gm.trans S.gr)) ?_;rintro _ h ⟨g,b',rfl,_⟩;replace S:=S.call g;have q0:decide (cy l=cy l)=true:=decide_eq_true rfl;simp only [BZ,bV,aA,r8,d,r,r14,s,af S,BC,(Q.gr S.gr).sl.lenq,A,S.gr.load D,dK,<-Y,wf,w,seval];exact L S.drop1 (by simp [am,v]) (by simp [am,z]) (by simp [am,r8]) (by simp [am,d]) (by simp [am]) (by simp [am,r13]) (by simp [am])
       . obtain⟨d1,d2⟩:=burst_bad H so hlt M he (Nat.lt_of_le_of_lt (Nat.mod_le _ _) hb) (by
          rw [<-Y];have h1:u%2 ^i<2 ^i:=XA _ (Nat.two_pow_pos i);have N:2 ^f*(u%2 ^i)<2 ^f*2 ^i:=Nat.mul_lt_mul_of_pos_left h1 (Nat.two_pow_pos f);rw [<-Nat.pow_add]at N;exact XC N (Yi (by decide) U))
         refine ah (re S.ok (by rw [lT];exact hs) d1) ?_;intro h g;replace S:=S.call g;have q0:decide (T=cy l)=false:=decide_eq_false d2;have q1:((if(true:Bool)=true then(24:Int)else 23))=24:=rfl;simp only [BZ,bV,aA,r8,d,r,r14,s,af S,BC,q0,(Q.gr S.gr).sl.lenq,A,S.gr.load D,dK,<-Y,wf,w,seval];exact L S.drop1 (by simp [am,v]) (by simp [am,z]) (by simp [am,r8]) (by simp [am,d]) (by simp [am]) (by simp [am,r13]) (by simp [am])
   . simp only [BZ,d,r14,Q.sl.lenq,an,hlt,seval];exact cL ⟨S,by simp [am,v,r8,r13]⟩
 . clear S;rintro j h ⟨S,v,r8,r13⟩;have lE:(cy l).length=11+13*l.length+(l.flatMap Xr).length:=nP l;have l1:1<=l.length:=(by rw [hl,jB];exact Yw (Xd _));have wa:ag .i64 (a:Int)=(a:Int):=(by rw [wrap64]<;>omega);have yE:((cy l).length:Int)≠0:=(by omega);have tm:(a:Int).tmod ((cy l).length:Int)=((a%(cy l).length:Nat):Int):=(by rw [Xb (by omega)];exact(XB _ _).symm);have hc:a%(cy l).length<(cy l).length:=XA _ (by omega);simp only [BZ,bV,aA,cj,XK,XL,v,r8,wa,dK,gJ yE,tm,seval];generalize a%(cy l).length=c at hc;have s1:=rj (E:=zB) (l:=cy l) (k:=.i64) (b:=c) Tryz.t9.1 (Nat.le_of_lt hc);simp only [BZ,s1,seval];refine ah (re S.ok (by rw [Xm];omega) (decF_cut H so hc)) ?_;intro h g;replace S:=S.call g;have t9:(c:Int).tmod 9=((c%9:Nat):Int):=(by rw [Xb (by omega)];omega);have w9:ag .i64 (1+((c%9:Nat):Int))=((1+c%9:Nat):Int):=(by rw [wrap64]<;>omega);have s2:=rj (E:=zB) (l:=cy l) (k:=.i64) (b:=1+c%9) Tryz.t9.1 (by omega);have a1:((cy l).take (1+c%9)).length=1+c%9:=(by rw [Xm];omega);have ad:=fun(t:TypeId) (p q:Operand)=>A2 (E:=zB) (t:=t) (p:=p) (q:=q) (l:=cy l) (m:=(cy l).take (1+c%9)) (by omega);simp only [BZ,Bool.false_eq_true,XK,XL,r8,gJ (n:=9) (by decide),t9,w9,s2,ad,seval];refine ah (re S.ok (by rw [Xh];omega) (decF_more H so (fun e=>by rw [e]at a1;simp at a1;omega))) ?_;intro h g;replace S:=S.call g;have q1:((if(false:Bool)=true then(24:Int)else 23))=23:=rfl;have z1:(0<((11+13*l.length:Nat):Int))=True:=eq_true (by omega);simp only [BZ,ab,Bool.false_eq_true,r13,z1,seval];exact g0.trans S.gr
end Go.Ab
end
section
namespace Go.Ab
open Go.ChangeShapes Go.WideShapes Go.RowKit
theorem rowAt_le{P:Program}{b:TypeId->Bool}{d:Nat}{e:TypeId}{a off n:Nat}(h:rowAt P b d e a off n=true):off<=a*P.cellsOf e:=by
 cases d with
 |zero=>cases h
 | succ d=>
   unfold rowAt at h;simp only []at h
   split at h
   . cases h
   . rename_i i;have c:0<P.cellsOf e:=(by omega);have f:=Nat.div_add_mod off (P.cellsOf e);simp only [Bool.or_eq_true,Bool.and_eq_true,beq_iff_eq,decide_eq_true_eq]at h;rcases h with⟨⟨g,j⟩,_⟩|⟨g,_⟩
     . have:P.cellsOf e*(off/P.cellsOf e)<=P.cellsOf e*a:=X6 _ (by omega);rw [Yj a];omega
     . have:P.cellsOf e*(off/P.cellsOf e+1)<=P.cellsOf e*a:=X6 _ (by omega);have hlt:=XA off c;rw [Yo,Xg]at this;rw [Yj a];omega
theorem liesAt_le{P:Program}{d:Nat}: ∀{e:TypeId} {a off:Nat} {u:TypeId} {n:Nat},liesAt P d e a off u n=true->off<=a*P.cellsOf e:=by
 induction d with
 |zero=>intro e a off u n h;cases h
 | succ d b=>
   intro e a off u n h;unfold liesAt at h;rw [Bool.or_eq_true]at h;rcases h with h|h
   . exact rowAt_le h
   . split at h
     . exact b h
     . cases h
theorem has_W{P:Program}{W:World}{r:_root_.Go.Reach}{base:Nat}{a:Addr}{e:TypeId}{n:Nat}(h:W.has P r base a e n):a.spot=none/\a.block<W.heap.size/\ ∃l,(hpW W).load (a.block+16) a.off 0=some l:=by
 obtain⟨_,f,i,c,b,k⟩:=h;have hle:=liesAt_le k;have d:a.off<=c:=Yk hle (Nat.div_mul_le_self _ _);unfold World.shape? at b
 split at b
 next m el q g=>
  cases b;have hlt:=(Array.getElem?_eq_some_iff.1 g).1;have p:Row (hpW W) (a.block+16) (m.toList.map (jF W.heap.size)) 0:=⟨_,_,by rw [tD,g];rfl,Tr.sized_ofList _,fun j=>Tr.get_ofList _ j⟩;exact⟨f,hlt,_,p.load (o:=a.off) (n:=0) (by simpa using d)⟩
 . cases b
section
variable{H:Type}{enc:TypeId×Value->H}{P:Program}
theorem nJ{W:World}{base n:Nat}{s e:TypeId}{k:IntKind}{c:Value}{C:Nat->Bool}{D:Bool}{x:DataW H×List MemPlace}(v:P.underlying s=some (.slice e))(E:P.underlying e=some (.int k))(F:P.cellsOf e=1)
 (b:Cell.okWide P W .any base s c) (h:DataW.trod enc P W 0 C D n s [c]=some x): ∃d:List Int,SlW (hpW W) k (jF W.heap.size c) d/\(∀z∈d,(Lit.int k z).wf=true)/\d.length<=9223372036854775807:=by
 rcases Go.ChangeShapes.open_ints v E F h with⟨w,_⟩|⟨a,g,o,d,w,J,A,K,p,_,j,y⟩
 . cases w;exact⟨[],.inl ⟨rfl,rfl⟩,fun z p=>(by cases p),by simp⟩
 . cases w;unfold Cell.okWide at b;rw [v]at b;simp only [Cell.ok,v]at b;obtain⟨B,q,r⟩:=b;obtain⟨t,hlt,G⟩:=has_W r;have m:g<=d.length:=(by rw [p];split<;>omega);refine⟨d.take g,.inr ⟨a.block+16,a.off,o,?_,?_,?_⟩,fun z p=>y z (List.mem_of_mem_take p),by
    have:(o:Int)<=9223372036854775807:=q;rw [Xm];omega⟩
   . rw [Xm,YB m];simp only [jF,if_pos A,if_pos (And.intro t hlt)]
   . rw [Xm,YB m];exact A
   . rw [Xm,YB m,Xg];rw [load_join (f:=fun i=>.int k (d.getD i 0)) G (fun i u=>load_W t (j i (by omega)))];congr 1;have I: ∀l:List Int,l.flatMap (encI k)=l.map fun x=>.int k x:=fun l=>(by rw [YG,List.map_eq_flatMap,YG];rfl);rw [I];refine List.ext_getElem? fun i=>?_;rw [XW,XW,List.getElem?_take];by_cases u:i<g
     . rw [if_pos u,Yl u,Xw (show i<d.length by omega)];simp [zO,show i<d.length by omega]
     . rw [if_neg u,XY (by simpa using u)];rfl
theorem open_slV{W:World}{base:Nat}{s e:TypeId}{k:IntKind}{v:Value}{j:Nat->Bool}{m:Bool}{d:DataW H}{p:List MemPlace}(c:P.underlying s=some (.slice e))(n:P.underlying e=some (.int k))(o:P.cellsOf e=1)
 (a:Value.okWide P W .any base s v) (h:DataW.Trod enc P W 0 j m s v d p): ∃f:List Int,SlW (hpW W) k (absA W.heap.size v) f/\(∀z∈f,(Lit.int k z).wf=true)/\f.length<=9223372036854775807:=by
 unfold Value.okWide at a;rw [c]at a;obtain⟨i,h⟩:=h;have b: ∀l:Array Value,v≠ .agg l:=by rintro l rfl;simp only [Cell.okWide,c,Cell.ok]at a
 have g:v.cells.toList=[v]:=by cases v<;>first|rfl|exact absurd rfl (b _)
 rw [g]at h;have q:absA W.heap.size v=jF W.heap.size v:=by cases v<;>first|rfl|exact absurd rfl (b _)
 rw [q];exact nJ c n o a h
theorem open_sl2{W:World}{base:Nat}{t s e:TypeId}{k:IntKind}{j m:Field}{v:Value}{C:Nat->Bool}{D:Bool}{d:DataW H}{p:List MemPlace}(r:P.underlying t=some (.struct #[j,m]))(E:j.offset=0)(o1:m.offset=1)(F:j.type=s)(t1:m.type=s)
 (u:P.underlying s=some (.slice e)) (w:P.underlying e=some (.int k)) (x:P.cellsOf e=1) (f:P.cellsOf s=1) (o:P.cellsOf t=2) (q:P.cellTypes P.depth t=some [s,s])
 (a:Value.okWide P W .any base t v) (h:DataW.Trod enc P W 0 C D t v d p):
 ∃(c0 g:Value) (xs ys:List Int),v=.agg #[c0,g]/\SlW (hpW W) k (jF W.heap.size c0) xs/\SlW (hpW W) k (jF W.heap.size g) ys/\(∀z∈xs,(Lit.int k z).wf=true)/\ ∀z∈ys,(Lit.int k z).wf=true:=by
 unfold Value.okWide at a;rw [r]at a;obtain⟨G,rfl,c,O,i,_,b⟩:=a;rw [q]at i;cases i;rw [o]at c;obtain⟨l⟩:=G;simp only [List.size_toArray]at c;obtain⟨c0,g,rfl⟩:=len2 c;obtain⟨y,h⟩:=h;obtain⟨Q,R,n,_,_,A,B⟩:=Go.ChangeShapes.trod_struct2 r h;rw [E,F,f]at A;rw [o1,t1,f]at B;obtain⟨S,I,J⟩:=b 0 c0 rfl;obtain⟨T,i,K⟩:=b 1 g rfl;cases I;cases i;obtain⟨xs,L,M,_⟩:=nJ u w x J A;obtain⟨ys,N,wy,_⟩:=nJ u w x K B;exact⟨c0,g,xs,ys,rfl,L,N,M,wy⟩
end
end Go.Ab

end

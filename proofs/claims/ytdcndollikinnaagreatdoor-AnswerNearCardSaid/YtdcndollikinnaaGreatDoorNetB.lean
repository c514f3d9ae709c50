/- Nets, cells, flags: what the functions do (part 2). -/
import Derived.Test.YtdcndollikinnaaGreatDoorNetA
open Go.Ab.Tryz
open Go.Ab.Tryz renaming abEnv->zM,e3E->XJ,e330E->XY
open List renaming replicate->zO,getD_eq_getElem?_getD->Xa,getElem?_eq_getElem->Xb,mem_append_left->Xd,mem_append_right->Xe,flatMap_eq_foldl->Xf,length_set->Xh,getElem?_eq_none->Xm,getElem?_map->Xo,take->Xp,drop->Xq,getElem?_replicate->Xr,ext_getElem?->Xt,mem_of_getElem?->Xu,length_take->Xw,getElem_mem->Xy,range->XB,map_eq_flatMap->XD,append_nil->XE,length_append->XF,length_replicate->XK,take_append_of_le_length->XM,drop_zero->XO,filterMap_nil->XP,map_cons->XR,getElem?_append_right->XS,drop_eq_getElem_cons->XT,length_map->XV,mem_of_mem_take->XZ,getElem?_append->X3,mem_cons_of_mem->X4,mem_cons->X5,getElem?_range->X6,flatMap_append->X7,take_replicate->X8,replicate_zero->X9,map_nil->Yb,map_set->Yd
open Int renaming cast_ofNat_Int->Xc,toNat_natCast->XH,ofNat_eq_natCast->XX
open Nat renaming lt_of_succ_le->Xg,ble_eq_true_of_le->Xi,le_trans->Xj,zero_add->Xl,mul_one->Xn,zero_mul->Xv,le_refl->XA,one_mul->XC,lt_of_lt_of_le->XG,zero_le->XI,ble->XN,le_total->XU,beq->XW,mul_le_mul_right->X2,sub_self->Ya,le_of_lt->Yc
open Option renaming isSome_none->Xk,getD_some->Xs,getD_none->Xx,map_some->Xz,map_none->XL
open Bool renaming and_true->XQ
set_option maxHeartbeats 4000000
set_option linter.defProp false
set_option linter.unusedVariables false
set_option linter.unusedSimpArgs false
section
namespace Go.Ab
def lG(x:Hd):List Value:=[.int .i64 x.id,.int .i64 x.key]
theorem kD(x:Hd):(lG x).length=2:=rfl
structure eu(cs:List Value)(cap:Nat)(l:List Hd):Prop where
 len:cs.length=cap*2
 le:l.length<=cap
 at0: ∀i,i<l.length->cs[i*2]? =some (.int .i64 (l.getD i default).id)/\cs[i*2+1]? =some (.int .i64 (l.getD i default).key)
def j9(f:Int->Option Value)(l:List Hd):Prop:=(∀i,i<l.length->f (l.getD i default).id=some (.int .i64 i))/\ ∀x v,f x=some v-> ∃i,i<l.length/\x=(l.getD i default).id
section
variable{h:Hp}{bl cap i:Nat}{cs:List Value}{l:List Hd}{md:Nat}
theorem eu.ld0(c:eu cs cap l)(r:Row h bl cs md)(a:i<l.length):h.load bl (i*2) 1=some [.int .i64 (l.getD i default).id]:=r.load1 (c.at0 i a).1
theorem eu.ld1(c:eu cs cap l)(r:Row h bl cs md)(a:i<l.length):h.load bl (i*2+1) 1=some [.int .i64 (l.getD i default).key]:=r.load1 (c.at0 i a).2
theorem eu.ld2(c:eu cs cap l)(r:Row h bl cs md)(a:i<l.length):h.load bl (i*2) 2=some [.int .i64 (l.getD i default).id,.int .i64 (l.getD i default).key]:=by have d:=(c.at0 i a).1;have b:=(c.at0 i a).2;have e:=(List.getElem?_eq_some_iff.1 b).1;rw [r.load (by omega)];grind[XT,List.getElem?_eq_some_iff]
theorem uL{x y:Value}(a:i*2+2<=cs.length)(j:Nat):(lay cs (i*2) [x,y])[j]? =if j=i*2 then some x else if j=i*2+1 then some y else cs[j]? :=by rw [jO (by simpa using a)];grind
theorem eu.set(c:eu cs cap l)(d:i<l.length)(x:Hd):eu (lay cs (i*2) [.int .i64 x.id,.int .i64 x.key]) cap (l.set i x):=by
 have f:=c.len;have hle:=c.le;have a:i*2+2<=cs.length:=by omega
 refine⟨by grind[pK],by grind,fun j b=>?_⟩;rw [Xh]at b;rw [uL a,uL a,pR];by_cases e:i=j
 . grind
 . rw [if_neg (by omega),if_neg (by omega),if_neg (by omega),if_neg (by omega),if_neg (by omega)];exact c.at0 j b
theorem eu.setKey(c:eu cs cap l)(a:i<l.length)(k:Int):eu (lay cs (i*2+1) [.int .i64 k]) cap (l.set i ⟨(l.getD i default).id,k⟩):=by
 have d:=c.len;have hle:=c.le;have e:lay cs (i*2+1) [.int .i64 k]=lay cs (i*2) [.int .i64 (l.getD i default).id,.int .i64 k]:=by
  refine Xt fun j=>?_;rw [uL (by omega),jO (by simp;omega)];simp only [List.length_cons,List.length_nil];by_cases b:j=i*2
  . subst b;rw [if_neg (by omega),if_pos rfl];exact(c.at0 i a).1
  grind
 rw [e];exact c.set a ⟨(l.getD i default).id,k⟩
end
theorem set_sw(l:List Hd)(i k:Nat):(l.set i (l.getD k default)).set k (l.getD i default)=sw l i k:=rfl
theorem j9.inj{f:Int->Option Value}{l:List Hd}(h:j9 f l){i j:Nat}(a:i<l.length)(b:j<l.length)(e:(l.getD i default).id=(l.getD j default).id):i=j:=by have c:=h.1 i a;have d:=h.1 j b;grind
theorem j9.swap{f:Int->Option Value}{l:List Hd}(h:j9 f l){i k:Nat}(a:i<l.length)(c:k<l.length):
 j9 (eI (eI f ((sw l i k).getD i default).id (some (.int .i64 i))) ((sw l i k).getD k default).id (some (.int .i64 k))) (sw l i k):=by
 have o:=iX l a c i;have p:=iX l a c k;rw [if_pos rfl]at p;refine⟨fun j b=>?_,fun x v n=>?_⟩
 . rw [ip]at b;have d:=iX l a c j;unfold eI;by_cases g:j=k
   . grind
   . rw [if_neg g]at d;by_cases m:j=i
     . subst m;rw [if_neg,if_pos rfl];rw [if_neg g,if_pos rfl]at o;rw [o,p];intro e;exact g (h.inj c a (by omega)).symm
     . rw [if_neg m]at d;rw [if_neg,if_neg]
       . rw [d];exact h.1 j b
       . rw [d,o];intro e
         split at e
         . exact m (h.inj b a (by omega))
         . rename_i q;rw [if_pos rfl]at e;exact g (h.inj b c (by omega))
       . rw [d,p];intro e;exact m (h.inj b a (by omega))
 . unfold eI at n;by_cases g:x=((sw l i k).getD k default).id
   . grind[ip]
   . rw [if_neg g]at n;by_cases m:x=((sw l i k).getD i default).id
     . grind[ip]
     . rw [if_neg m]at n;obtain⟨j,b,e⟩:=h.2 x v n;refine⟨j,by rw [ip];exact b,?_⟩;have d:=iX l a c j;grind
structure fI(h:Hp)(bh bl bm cap:Nat)(n:Int)(l:List Hd):Prop where
 row:Row h bh [.slice (some ⟨bl,0,some 2⟩) l.length cap,.map (some bm),.int .i64 n] 1
 ex: ∃cs es c f,Row h bl cs 1/\h.get bm=some (.map es c)/\eu cs cap l/\d6 es c f/\j9 f l
 ne:bh≠bl/\bh≠bm/\bl≠bm
theorem fI.mo{M:Nat->Prop}{h k:Hp}{e i j cap:Nat}{n:Int}{l:List Hd}(r:fI h e i j cap n l)(g:Mo M h k)(p: ¬M e)(q: ¬M i)(s: ¬M j):fI k e i j cap n l:=by obtain⟨t,m,c,f,a,b,d⟩:=r.ex;exact⟨g.has (o:=.row _ 1) r.row p,⟨t,m,c,f,g.has (o:=.row _ 1) a q,g.has (o:=.map m c) b s,d⟩,r.ne⟩
theorem fI.mo1{M:Nat->Prop}{h f:Hp}{a b d cap:Nat}{n:Int}{l:List Hd}(r:fI h a b d cap n l)(g:Mo M h f)(e: ∀c,c=a\/c=b\/c=d-> ¬M c):fI f a b d cap n l:=
 r.mo g (e _ (.inl rfl)) (e _ (.inr (.inl rfl))) (e _ (.inr (.inr rfl)))
theorem fI.lt{h:Hp}(e:h.t.Sized h.n){g i j cap:Nat}{n:Int}{l:List Hd}(r:fI h g i j cap n l): ∀c,c=g\/c=i\/c=j->c<h.n:=by
 obtain⟨k,m,c,f,a,b,d⟩:=r.ex;rintro c (rfl|rfl|rfl)
 . exact r.row.lt e
 . exact a.lt e
 . exact hU e b
theorem fI.gr{h a:Hp}{b c d cap:Nat}{n:Int}{l:List Hd}(r:fI h b c d cap n l)(g:Gr h a):fI a b c d cap n l:=r.mo (M:=NoM) g.fr (fun h=>h) (fun h=>h) (fun h=>h)
theorem St.init2{M:Nat->Prop}{h:Hp}(b:h.t.Sized h.n){b1 b2:Nat}{o1 o2:Ob}(c:Has h b1 o1)(d:Has h b2 o2)(a:b1≠b2)(m1:M b1)(m2:M b2):St M h h [(b1,o1),(b2,o2)] []:=by refine⟨Mo.refl b,fun p e=>?_,fun _ h=>(by cases h),by simp [keys,a]⟩;grind
theorem St.init3{M:Nat->Prop}{h:Hp}(b:h.t.Sized h.n){b1 b2 a:Nat}{o1 o2 o3:Ob}(f:Has h b1 o1)(g:Has h b2 o2)(i:Has h a o3)(c:b1≠b2)(d:b1≠a)(e:b2≠a)(m1:M b1)(m2:M b2)(m3:M a):St M h h [(b1,o1),(b2,o2),(a,o3)] []:=by refine⟨Mo.refl b,fun p j=>?_,fun _ h=>(by cases h),by simp [keys,c,d,e]⟩;grind
end Go.Ab

end
section
namespace Go.Ab
open Go.Proofs
set_option maxRecDepth 10000
def lH(a b:Int):Int:=if a<b then-1 else if b<a then 1 else 0
theorem Ac{h0:Hp}(b:h0.t.Sized h0.n){a:Int}:aN zM 195 [.int .i64 a] h0 (.bool false):=by have S:=Si b;refine aa (n:=6) (rs:=[.tmp 2]) rfl Tryz.e195 rfl rfl rfl (lbt rfl) ?_;simp only [BZ,ab,seval];exact S.gr
theorem nanI_ok{h0:Hp}(b:h0.t.Sized h0.n){a:Int}:aN zM 288 [.int .i64 a] h0 (.bool false):=by have S:=Si b;refine aa (n:=6) (rs:=[.tmp 2]) rfl Tryz.e288 rfl rfl rfl (lbt rfl) ?_;simp only [BZ,ab,seval];exact S.gr
theorem zX{h0:Hp}(e:h0.t.Sized h0.n){a b:Int}:aN zM 114 [.int .i64 a,.int .i64 b] h0 (.int .i64 (lH a b)):=by
 have S:=Si e;unfold lH;refine aa (n:=20) (rs:=[.tmp 4]) rfl Tryz.e114 rfl rfl rfl (lbt rfl) ?_;simp only [BZ,seval];refine ag (Ac S.ok) ?_;intro h g;replace S:=S.call g;clear g;simp only [BZ,seval];refine ag (Ac S.ok) ?_;intro h g;replace S:=S.call g;clear g;by_cases c:a<b
 . simp only [BZ,ab,c,seval];exact S.gr
 . by_cases d:b<a
   . simp only [BZ,ab,c,d,seval];exact S.gr
   . simp only [BZ,ab,c,d,seval];exact S.gr
theorem cmpInt_ok{h0:Hp}(e:h0.t.Sized h0.n){a b:Int}:aN zM 284 [.int .i64 a,.int .i64 b] h0 (.int .i64 (lH a b)):=by
 have S:=Si e;unfold lH;refine aa (n:=20) (rs:=[.tmp 4]) rfl Tryz.e284 rfl rfl rfl (lbt rfl) ?_;simp only [BZ,seval];refine ag (nanI_ok S.ok) ?_;intro h g;replace S:=S.call g;clear g;simp only [BZ,seval];refine ag (nanI_ok S.ok) ?_;intro h g;replace S:=S.call g;clear g;by_cases c:a<b
 . simp only [BZ,ab,c,seval];exact S.gr
 . by_cases d:b<a
   . simp only [BZ,ab,c,d,seval];exact S.gr
   . simp only [BZ,ab,c,d,seval];exact S.gr
theorem or2_ok{h0:Hp}(p:h0.t.Sized h0.n){v:Value}{a b:Int}(g:av h0 1 (encI .i64) v [a,b]):aN zM 283 [v] h0 (.int .i64 (if a=0 then b else a)):=by
 have S:=Si p;obtain⟨h,j,q,e⟩:=g.ix (kd:=.i64) (bG .i64) (i:=0) (by simp);obtain⟨k,l,r,f⟩:=g.ix (kd:=.i64) (bG .i64) (i:=1) (by simp);have c:kV (some 1) v (.int .i64 0)=some (.pointer (some ⟨h,j,none⟩)):=q;have d:kV (some 1) v (.int .i64 1)=some (.pointer (some ⟨k,l,none⟩)):=r;replace e:h0.load h j 1=some [.int .i64 a]:=e;replace f:h0.load k l 1=some [.int .i64 b]:=f;have s:am .i64 1=1:=rfl;have t:am .i64 2=2:=rfl;refine aa (n:=18) (rs:=[.tmp 2]) rfl Tryz.e283 rfl rfl rfl (lbt rfl) ?_;simp only [BZ,Xc,g.lenq,seval];rw [cE];by_cases m:a=0
 . simp only [BZ,c,e,m,s,seval];rw [cE];by_cases o:b=0
   . simp only [BZ,d,f,o,t,seval];rw [cE];simp only [BZ,ab,seval];exact S.gr
   . simp only [BZ,ab,d,f,o,seval];exact S.gr
 . simp only [BZ,ab,c,e,m,seval];exact S.gr
theorem Ad{h0:Hp}(t:h0.t.Sized h0.n){u w B cap:Nat}{n:Int}{l:List Hd}(R:fI h0 u w B cap n l){i k:Nat}(r:i<l.length)(s:k<l.length):
 aN zM 274 [ptrTo u,.int .i64 i,.int .i64 k] h0 (.bool (decide (hlt (l.getD i default) (l.getD k default)))):=by
 have S:=Si t;obtain⟨F,G,c,f,d,H,C,I,J⟩:=R.ex;have a:=R.row.load1 (o:=0) rfl;have e:=C.ld0 d r;have j:=C.ld1 d r;have m:=C.ld0 d s;have p:=C.ld1 d s;refine aa (n:=44) (rs:=[.tmp 6]) rfl Tryz.e274 rfl rfl rfl (lbt rfl) ?_;simp only [BZ];refine ar (ax rfl) (q:=17179869184) (ps:=[(16,32),(16,28),(16,24),(16,20)]) (by kernel_rfl) ?_;simp only [BZ,cls,a,r,s,j,p,seval];refine bM (zX S.ok) ?_;intro h g;replace S:=S.call g;replace a:=g.load a;replace e:=g.load e;replace j:=g.load j;replace m:=g.load m;replace p:=g.load p;have x:leaves _ _ w=true:=ao g (d.lt t);have y:leaves _ _ u=true:=ao g (R.row.lt t);clear g;simp only [BZ,cls,a,r,s,e,m,seval];refine bM (cmpInt_ok S.ok) ?_;intro K g;replace S:=S.call g;replace a:=g.load a;replace e:=g.load e;replace j:=g.load j;replace m:=g.load m;replace p:=g.load p;clear g;simp only [BZ,cls,seval];refine dL (bV (by exact Tryz.t41.1) (by exact XJ) (by decide) (by rfl)) S ?_;clear S;intro h v S z A;simp only [LC,a9,bQ,ae,Xv,Xl,Xn,XC,seval]at S;simp only [BZ,cls,seval];have D:av h 1 (encI .i64) (.slice (some ⟨v,0,none⟩) 2 2) [lH (l.getD i default).key (l.getD k default).key,lH (l.getD i default).id (l.getD k default).id]:=.inr ⟨v,0,none,2,rfl,XA _,S.lds (b:=v) (o:=0) (n:=2*1) m0 (lbt rfl)⟩;refine bM (or2_ok S.ok D) ?_;intro L g;replace S:=S.call g;clear g;simp only [BZ,cls,ab,seval];refine⟨by simp only [aK,aS,aH,aU,aJ,ne_eq,not_false_eq_true,aW,aZ,aT,aM,bA,ca,aD,XQ,ah,aF x,aF y,aB x,aB y,seval],?_⟩;have E:decide ((if lH (l.getD i default).key (l.getD k default).key=0 then lH (l.getD i default).id (l.getD k default).id else lH (l.getD i default).key (l.getD k default).key)<0)=decide (hlt (l.getD i default) (l.getD k default)):=by
  congr 1;rw [eq_iff_iff];unfold lH hlt
  repeat' split
  all_goals omega
 exact⟨by rw [E],S.gr⟩
theorem ua{h0:Hp}(ok:h0.t.Sized h0.n){y g j cap:Nat}{n:Int}{l:List Hd}(R:fI h0 y g j cap n l){i k:Nat}(u:i<l.length)(r:k<l.length):
 Ret zM 251 [ptrTo y,.int .i64 i,.int .i64 k] h0 fun v d=>Mo (fun c=>c=g\/c=j) h0 d/\fI d y g j cap n (sw l i k):=by
 obtain⟨X,es,c,f,G,hm,C,MI,IF⟩:=R.ex;have S:=St.init2 (M:=fun c=>c=g\/c=j) ok (o1:=.row X 1) (o2:=.map es c) G hm R.ne.2.2 (.inl rfl) (.inr rfl);have F: ¬(y=g\/y=j):=fun h=>h.elim R.ne.1 R.ne.2.1;have H:=R.row.load1 (o:=0) rfl;have r1:=R.row.load1 (o:=1) rfl;have i2:=C.ld2 G u;have k2:=C.ld2 G r;have Y:=C.len;have ad:=C.le;refine aa (n:=62) (rs:=[]) rfl Tryz.e251 rfl rfl rfl (lbt rfl) ?_;simp only [BZ];refine ar (ax rfl) (q:=0) (ps:=[]) (by kernel_rfl) ?_;simp only [BZ,cls,H,u,r,i2,k2,seval];refine df (S.store (i:=0) rfl Tryz.t330.2.1 (by intro x e;cases e) rfl rfl (by omega) ono) ?_;clear S;rintro h ⟨S,s⟩;clear s;have I:=C.set u (l.getD k default);simp only [LC,ae]at S;have m:=S.old H F;simp only [BZ,cls,r,seval];generalize lay X (i*2) _=J at S I;have af:=I.len;refine df (S.store (i:=0) (off:=k*2) rfl Tryz.t330.2.1 (by intro x e;cases e) rfl rfl (by omega) ono) ?_;clear S;rintro h ⟨S,s⟩;clear s;have A:=I.set (i:=k) (by rw [Xh];exact r) (l.getD i default);simp only [LC,ae]at S;generalize lay J (k*2) _=t at S A;rw [set_sw]at A;clear m;have m:=S.old H F;have B:=S.old r1 F;have K:i<(sw l i k).length:=by rw [ip];exact u
 have L:k<(sw l i k).length:=by rw [ip];exact r
 have Z:=A.ld0 (S.row m0) K;have ak:=A.ld0 (S.row m0) L;simp only [BZ,seval];refine ar (ax rfl) (q:=0) (ps:=[]) (by kernel_rfl) ?_;simp only [BZ,cls,m,B,u,r,Z,ak,seval];refine dn_v (P:=fun d v=> ∃n a p,v=.tuple #[(f ((sw l i k).getD i default).id).getD (.int .i64 0),.int .i64 (Int.ofNat n)]/\St (fun c=>c=g\/c=j) h0 d [(g,.row t 1),(j,.map a p)] []/\ ∀w,∃b,iL n w a=some b/\d6 b p (eI f ((sw l i k).getD i default).id (some w))) ?_ ?_
 . obtain⟨d,n,N,_,a,p,_,e4,O⟩:=S.mentI (i:=1) (x:=(((sw l i k).getD i default).id:Int)) rfl Tryz.t232.1 Tryz.t3.1 (z:=.int .i64 0) (by kernel_rfl) MI;exact⟨d,_,N,n,a,p,rfl,e4,O⟩
 clear S Z ak m B;rintro h v ⟨s1,al,c1,rfl,S,Q⟩;obtain⟨b,T,U⟩:=Q (.int .i64 i);simp only [BZ,cls,XX,seval];refine df (S.mstoreI (i:=1) rfl T) ?_;clear S;rintro h ⟨s,S⟩;clear s;simp only [LC]at S;simp only [BZ,cls,seval];refine dn_v (P:=fun d v=> ∃n a p,v=.tuple #[(eI f ((sw l i k).getD i default).id (some (.int .i64 i)) ((sw l i k).getD k default).id).getD (.int .i64 0),.int .i64 (Int.ofNat n)]/\St (fun c=>c=g\/c=j) h0 d [(g,.row t 1),(j,.map a p)] []/\ ∀w,∃b,iL n w a=some b/\d6 b p (eI (eI f ((sw l i k).getD i default).id (some (.int .i64 i))) ((sw l i k).getD k default).id (some w))) ?_ ?_
 . obtain⟨d,n,N,_,a,p,_,e4,O⟩:=S.mentI (i:=1) (x:=(((sw l i k).getD k default).id:Int)) rfl Tryz.t232.1 Tryz.t3.1 (z:=.int .i64 0) (by kernel_rfl) U;exact⟨d,_,N,n,a,p,rfl,e4,O⟩
 clear S;rintro h v ⟨s2,an,c3,rfl,S,D⟩;obtain⟨V,E,W⟩:=D (.int .i64 k);simp only [BZ,cls,XX,seval];refine df (S.mstoreI (i:=1) rfl E) ?_;clear S;rintro h ⟨s,S⟩;clear s;simp only [LC]at S;simp only [BZ,seval];refine⟨S.fr,?_,⟨t,V,c3,_,S.row m0,(S.own _ m1).2,A,W,IF.swap u r⟩,R.ne⟩;rw [ip];exact S.fr.has (o:=.row _ 1) R.row F
theorem up_ok{h0:Hp}(u:h0.t.Sized h0.n){b d e cap:Nat}{n:Int}{l:List Hd}(R:fI h0 b d e cap n l){i:Nat}(r:i<l.length)(y:l.length<1000000)(U:rD l i):
 Ret zM 254 [ptrTo b,.int .i64 i] h0 fun v s=>Mo (fun c=>c=d\/c=e) h0 s/\ ∃l',fI s b d e cap n l'/\l'.Perm l/\mJ l':=by
 refine aa (n:=23) (rs:=[]) rfl Tryz.e254 rfl rfl rfl (lbt rfl) ?_;simp only [BZ];refine aV (fun(i:Nat) m h=>i<l.length/\Mo (fun c=>c=d\/c=e) h0 h/\ ∃l',fI h b d e cap n l'/\l'.Perm l/\rD l' i/\m 0=ptrTo b/\m 1=.int .i64 i) (fun i=>i) ?_ i _ _ ?_
 . intro i w m h ⟨r,a,l',R,pm,U,r0,r1⟩;have t:=pm.length_eq;by_cases o:i=0
   . subst o;simp only [BZ,Xc,r1,seval];exact⟨a,l',R,pm,up_done U (.inl rfl)⟩
   . have x:(0:Int)<(i:Int):=(by omega);have p:am .i64 ((i:Int)-1)=((i-1:Nat):Int):=(by rw [wrap64]<;>omega);have q:am .i64 (((i-1:Nat):Int).tdiv 4)=(((i-1)/4:Nat):Int):=(by rw [Int.tdiv_eq_ediv_of_nonneg (by omega),show(((i-1:Nat):Int)/4)=(((i-1)/4:Nat):Int) by omega,wrap64]<;>omega);simp only [BZ,r0,r1,x,p,q,kT (n:=4) (by decide),seval];refine ag (Ad a.ok R (i:=i) (k:=(i-1)/4) (by omega) (by omega)) ?_;intro h g;replace R:=R.gr g;replace a:=a.trans (M':=NoM) g.fr (fun _ h=>h.elim);clear g;by_cases j:hlt (l'.getD i default) (l'.getD ((i-1)/4) default)
     . simp only [BZ,r0,r1,p,q,kT (n:=4) (by decide),j,seval];refine step_ret (ua a.ok R (i:=i) (k:=(i-1)/4) (by omega) (by omega)) ?_;rintro v h ⟨f,R⟩;replace a:=a.trans f (fun _ h=>.inl h);simp only [BZ,r1,p,q,kT (n:=4) (by decide),seval];exact w ((i-1)/4) _ _ (by omega) ⟨by omega,a,_,R,(tB l' (by omega) (by omega)).trans pm,up_step (by omega) U (by omega) j,by simp [aw,r0,ah]⟩
     . simp only [BZ,kT (n:=4) (by decide),j,seval];exact⟨a,l',R,pm,up_done U (.inr (vJ j))⟩
 . exact⟨r,Mo.refl u,l,R,.refl _,U,by simp [cD,ah],by simp [cD,dK]⟩
theorem St.monoM{M:Nat->Prop}{h0 h:Hp}{L:List (Nat×Ob)}{G:List GL}(S:St NoM h0 h L G):St M h0 h L G:=
 ⟨S.fr.mono (fun _ h=>h.elim),fun p a=>⟨(S.own p a).1.imp (fun h=>h) (fun h=>h.elim),(S.own p a).2⟩,fun p a=>⟨(S.gown p a).1,fun b c=>((S.gown p a).2 b c).imp (fun h=>h) (fun h=>h.elim)⟩,S.apart⟩
theorem below_ok{h0:Hp}(e:h0.t.Sized h0.n){d i:Nat}:Ret zM 275 [ptrTo d,.int .i64 i] h0 fun v c=>Gr h0 c/\ ∃b1 b2,v=.func (.func 285) #[] #[ptrTo b1,ptrTo b2]/\h0.n<=b1/\h0.n<=b2/\c.load b1 0 1=some [.int .i64 i]/\c.load b2 0 1=some [ptrTo d]:=by have S:=Si e;refine aa (n:=6) (rs:=[.tmp 4]) rfl Tryz.e275 rfl rfl rfl (lbt rfl) ?_;simp only [BZ,seval];refine ac (bW (by exact cP)) S ?_;clear S;intro h b2 S a;simp only [BZ,if_false,seval];refine ac (bW (by exact bR)) S ?_;clear S;intro h b1 S b;simp only [BZ,ab,seval];exact⟨S.gr,b1,b2,rfl,b,a,S.ld m0 rfl,S.ld m1 rfl⟩
theorem Cc{h0:Hp}(b:h0.t.Sized h0.n){b1 b2 k i n cap:Nat}{p:Addr}(e:h0.load b1 0 1=some [.int .i64 i])(q:h0.load b2 0 1=some [ptrTo k])(z:h0.load k 0 1=some [.slice (some p) n cap])(H:n<1000000)(I:i<1000000):
 Iter zM 285 [] [ptrTo b1,ptrTo b2] h0 (fun c=>c=b1\/c=b2\/c=k) ((XB (min 4 (n-(4*i+1)))).map fun j=>[.int .i64 ((4*i+1+j:Nat):Int)]):=by
 refine tD fun A J Z Y h F s l=>?_;refine enter (n:=28) (rs:=[]) rfl Tryz.e285 rfl rfl rfl (lbt rfl) ?_;have d:=s.load b e (.inl rfl);have m:am .i64 (4*(i:Int))=((4*i:Nat):Int):=by rw [wrap64]<;>omega
 have B:am .i64 (((4*i:Nat):Int)+1)=((4*i+1:Nat):Int):=by rw [wrap64]<;>omega
 have r:am .i64 (((4*i:Nat):Int)+4)=((4*i+4:Nat):Int):=by rw [wrap64]<;>omega
 simp only [BZ,d,m,B,seval];refine aV (fun(j:Nat) f h=>j<=min 4 (n-(4*i+1))/\ ∃F,ItS h0 (fun c=>c=b1\/c=b2\/c=k) h F/\J j h F/\f 0=.func (.yield A) #[] #[]/\f 1=ptrTo b1/\f 2=ptrTo b2/\f 4=.int .i64 ((4*i+1+j:Nat):Int)) (fun j=>min 4 (n-(4*i+1))-j) ?_ 0 _ _ ?_
 . clear d;intro j C f h ⟨hjm,F,s,l,r0,r1,r2,r4⟩;have d:=s.load b e (.inl rfl);have u:=s.load b q (.inr (.inl rfl));have x:=s.load b z (.inr (.inr rfl));by_cases hlt:j<min 4 (n-(4*i+1))
   . have o:((4*i+1+j:Nat):Int)<=((4*i+4:Nat):Int):=(by omega);have t:4*i+1+j<n:=(by omega);have w:am .i64 (((4*i+1+j:Nat):Int)+1)=((4*i+1+(j+1):Nat):Int):=(by rw [wrap64]<;>omega);simp only [BZ,r0,r1,r2,r4,d,u,x,m,r,o,t,az,seval];refine cZ Y s l (i:=j) (by rw [Xo,X6 hlt];rfl) ?_ ?_ ?_
     . intro y D a E _ _;simp only [BZ,r4,w,seval];exact C (j+1) _ _ (by omega) ⟨by omega,D,E,a,by simp [aw,r0,r1,ah,r2]⟩
     . intro y a _;simp only [BZ,seval];exact gy rfl ⟨rfl,.inr (.inl ⟨_,rfl,a⟩)⟩
     . intro v y a;simp only [BZ];exact ku (cJ ⟨rfl,.inr (.inr ⟨_,rfl,a⟩)⟩)
   . have G:j=min 4 (n-(4*i+1)):=(by omega);have g:YQ J Z (min 4 (n-(4*i+1))) (.ret (ab [])) none h:=⟨rfl,.inl ⟨_,F,rfl,by rw [<-G];exact l⟩⟩;by_cases o:((4*i+1+j:Nat):Int)<=((4*i+4:Nat):Int)
     . have t: ¬4*i+1+j<n:=(by omega);simp only [BZ,r1,r2,r4,d,u,x,m,r,o,t,az,seval];exact cy (cJ ⟨rfl,_,rfl,by simpa using g⟩)
     . simp only [BZ,r1,r4,d,m,r,o,seval];exact cy (cJ ⟨rfl,_,rfl,by simpa using g⟩)
 . exact⟨by omega,F,s,l,by simp [aw,dh,ah]⟩
theorem down_ok {h0:Hp} (ok:h0.t.Sized h0.n) {u z A cap:Nat} {n:Int} {l:List Hd} (R:fI h0 u z A cap n l) {i:Nat} (C:i<l.length\/(l=[]/\i=0)) (hl:l.length<100000) (D:tu l i):
 Ret zM 252 [ptrTo u,.int .i64 i] h0 fun v J=>Mo (fun c=>c=z\/c=A) h0 J/\ ∃l',fI J u z A cap n l'/\l'.Perm l/\mJ l':=by
 have lt:=R.lt ok;have S:=Si ok;have N: ∀{L:List (Nat×Ob)},(∀c∈keys L [],h0.n<=c)-> ∀c,c=u\/c=z\/c=A-> ¬c∈keys L []:=fun H c s hm=>by have:=lt c s;have:=H c hm;omega
 refine aa (n:=27) (rs:=[]) rfl Tryz.e252 rfl rfl rfl (lbt rfl) ?_;simp only [BZ,seval];refine ac ay S ?_;clear S;intro h I S Q;simp only [BZ,seval];refine aC (aA S (i:=0) rfl ?_ ?_ ?_ ono) ?_
 . exact(by simp only [FA0])
 . exact(by exact fT)
 . exact Xg (lbt rfl)
 clear S;rintro h ⟨S,U⟩;clear U;simp only [LC,ae,lay,Xp,Xq,seval]at S;simp only [BZ];have RR:=R.gr S.gr;replace S:=S.monoM (M:=fun c=>c=z\/c=A);refine qw (fun(i:Nat) ρ d h=> ∃(r:List Nat) (l':List Hd),d=r.map qy/\St (fun c=>c=z\/c=A) h0 h (dB r++[(I,.row [.func (.func 274) #[ptrTo u] #[]] 1)]) []/\(∀c∈keys (dB r++[(I,Ob.row [.func (.func 274) #[ptrTo u] #[]] 1)]) [],h0.n<=c)/\
  fI h u z A cap n l'/\l'.Perm l/\tu l' i/\(i<l.length\/(l=[]/\i=0))/\ρ 0=ptrTo u/\ρ 1=.int .i64 i/\ρ 4=ptrTo I) (fun i=>l.length-i) ?_ i _ _ _ ?_
 . clear S RR R D C i;intro i ih ρ d hS ⟨r,l',hd,S0,H,R,pm,D,C,r0,r1,r4⟩;have a1:=pm.length_eq;have ai:i<1000000:=(by rcases C with C|⟨_,C⟩<;>omega);have S:=S0.base;have Rs:=R;have n0:h0.n<=hS.n:=S0.fr.n;simp only [BZ,r1,seval];refine ac ay S ?_;clear S;intro h w S V;simp only [BZ,seval];refine aC (aA S (i:=0) rfl ?_ ?_ ?_ ono) ?_
   . exact(by simp only [FA0])
   . exact(by exact bR)
   . exact Xg (lbt rfl)
   clear S;rintro h ⟨S,U⟩;clear U;simp only [LC,ae,lay,Xp,Xq,seval]at S;simp only [BZ,r0,r1,seval];have gq:=S.fr.n;have a2:=S.key_lt (b:=w) (by simp [keys]);refine step_ret (below_ok S.ok) ?_;intro v h ⟨g,b1,b2,e,n1,n2,q1,q2⟩;replace S:=S.call g;clear g;subst e;simp only [BZ];replace R:=R.mo1 S.fr (N H);have gh:=S.fr.n;refine hZ S (g:=285) (a:=#[]) (b:=#[ptrTo b1,ptrTo b2]) (by simp [bA,aw,ah]) rfl rfl ?_;intro h2 E O W a3 a4 g2;have kb: ∀c∈keys (dB r++[(I,Ob.row [.func (.func 274) #[ptrTo u] #[]] 1)]) [],c<b1/\c<b2:=fun c s=>(by have:=S0.key_lt s;have:=V;omega);generalize hB:dB r++[(I,Ob.row [.func (.func 274) #[ptrTo u] #[]] 1)]=B at S W S0 H kb;have mf:(I,Ob.row [.func (.func 274) #[ptrTo u] #[]] 1)∈B:=(by rw [<-hB];exact Xe _ m0);obtain⟨X,hX,W⟩: ∃X:fu,X=_/\St (· ∈keys B []) hS h2 ((O,.loop X)::(E,.dfr)::(w,.row [.int .i64 (i:Nat)] 1)::B) []:=⟨_,rfl,W⟩;have R2:=R.gr g2;have ch: ∀j,j<min 4 (l'.length-(4*i+1))->4*i+1+j<l'.length/\(4*i+1+j-1)/4=i:=fun j hj=>⟨by omega,by omega⟩;have hY:Yld zM O (fun j J F=> ∃m:Nat,St (· ∈keys B []) hS J ((O,.loop X)::(E,.dfr)::(w,.row [.int .i64 (m:Nat)] 1)::B) []/\F=keys ((O,.loop X)::(E,.dfr)::(w,.row [.int .i64 (m:Nat)] 1)::B) []/\
    (m<l'.length\/(l'=[]/\m=i))/\hle (l'.getD m default) (l'.getD i default)/\(∀q,q<j->hle (l'.getD m default) (l'.getD (4*i+1+q) default))/\(m=i\/(0<m/\(m-1)/4=i/\hlt (l'.getD m default) (l'.getD i default)))) (fun _ _=>False) ((XB (min 4 (l'.length-(4*i+1)))).map fun j=>[.int .i64 ((4*i+1+j:Nat):Int)]):=by
    refine⟨?_,?_,fun _ _ h=>h.elim,?_⟩
    . rintro j h F ⟨m,S,rfl,_⟩;exact⟨S.ok,fun b t=>S.key_lt t⟩
    . rintro j h F J ⟨m,S,rfl,k⟩ g;exact⟨m,S.call g,rfl,k⟩
    . rintro j x h F hx ⟨m,S,rfl,G,k2,Y,Z⟩;have ad:j<min 4 (l'.length-(4*i+1)):=(by have:=(List.getElem?_eq_some_iff.1 hx).1;simpa using this);rw [Xo,X6 ad]at hx;cases hx;obtain⟨c1,c2⟩:=ch j ad;replace G:=G.resolve_right (by intro e;rw [e.1]at c1;simp at c1);obtain⟨X0,ak⟩: ∃x,x=X:=⟨_,rfl⟩;subst hX;refine ia (S.get m0) (by rw [Tryz.e252];rfl) rfl ?_;have S1:=S;replace S:=S.base;simp only [BZ,seval];refine fU S (i:=0) rfl rfl rfl rfl rfl ?_;clear S;intro h S;simp only [LC]at S;have lf:h.load I 0 1=some [.func (.func 274) #[ptrTo u] #[]]:=S.ld (o:=0) (.tail _ (.tail _ (.tail _ mf))) rfl;simp only [BZ,r4,lf,S.ld (b:=w) (o:=0) m2 rfl,seval];have al: ∀c∈keys ((O,Ob.loop X0)::(E,.dfr)::(w,.row [.int .i64 (m:Nat)] 1)::B) [],h0.n<=c:=fun c s=>(S1.key_own s).elim (fun h=>by omega) (fun h=>H c h);clear ak;have Rc:fI h u z A cap n l':=(Rs.mo1 S1.fr (N H)).mo1 S.fr (N al);refine ag (Ad S.ok Rc c1 G) ?_;intro h g;replace S:=S.call g;clear g Rc lf;by_cases P:hlt (l'.getD (4*i+1+j) default) (l'.getD m default)
      . simp only [BZ,P,seval];refine aC (aA S (i:=2) rfl ?_ ?_ ?_ ono) ?_
        . exact(by simp only [FA0])
        . exact(by exact bR)
        . exact Xg (lbt rfl)
        clear S;rintro h ⟨S,U⟩;clear U;simp only [LC,ae,lay,Xp,Xq,seval]at S;simp only [BZ];refine eg S (i:=0) rfl ?_;clear S;intro h S;simp only [LC]at S;refine .inl ⟨rfl,_,⟨4*i+1+j,S1.rebase S,rfl,.inl c1,ky (sZ P) k2,fun q hq=>?_,.inr ⟨by omega,c2,?_⟩⟩,S.fr,S.key_new⟩
        . by_cases e:q=j
          . subst e;exact u9 _
          . exact ky (sZ P) (Y q (by omega))
        . rcases Z with rfl|⟨_,_,Z⟩
          . exact P
          . unfold hlt at*;omega
      . simp only [BZ,P,seval];refine eg S (i:=0) rfl ?_;clear S;intro h S;simp only [LC]at S;refine .inl ⟨rfl,_,⟨m,S1.rebase S,rfl,.inl G,k2,fun q hq=>?_,Z⟩,S.fr,S.key_new⟩;by_cases e:q=j
        . subst e;exact vJ P
        . exact Y q (by omega)
   refine eH (yX (Cc S.ok q1 q2 (R.row.load1 (o:=0) rfl) (by omega) ai) hY (h:=h2) (F:=keys ((O,.loop X)::(E,.dfr)::(w,.row [.int .i64 (i:Nat)] 1)::B) []) g2.fr (fun b t hlt=>?_) ⟨i,W,rfl,?_,u9 _,fun q hq=>by omega,.inl rfl⟩) fun o rc J y=>jn y ?_
   . have e1:=W.key_own t;rintro(rfl|rfl|rfl)
     . rcases List.mem_cons.1 t with e|t
       . omega
       . rcases List.mem_cons.1 t with e|t
         . omega
         . rcases List.mem_cons.1 t with e|t
           . simp only []at e;omega
           . have:=(kb _ t).1;omega
     . rcases List.mem_cons.1 t with e|t
       . omega
       . rcases List.mem_cons.1 t with e|t
         . omega
         . rcases List.mem_cons.1 t with e|t
           . simp only []at e;omega
           . have:=(kb _ t).2;omega
     . have:=lt b (.inl rfl);rcases e1 with e1|e1
       . omega
       . have:=H b e1;omega
   . rcases C with C|⟨C,_⟩
     . exact .inl (by omega)
     . right;rw [C]at pm;exact⟨pm.eq_nil,rfl⟩
   . rintro F ⟨m,T,rfl,G,k2,Y,Z⟩;rw [XV,List.length_range]at Y;subst hX;refine⟨_,T.get m0,Nat.zero_ne_one,?_⟩;replace T:=T.dead;show Run _ _ _ _ _ _ _ _;have p:=T.ld (b:=w) (o:=0) m1 rfl;have Rc:fI _ u z A cap n l':=Rs.mo1 T.fr (N H);have km: ∀q,0<q->q<l'.length->(q-1)/4=i->hle (l'.getD m default) (l'.getD q default):=fun q q0 ql qe=>(by have:=Y (q-(4*i+1)) (by omega);rwa [show 4*i+1+(q-(4*i+1))=q by omega]at this);have T0:=S0.rebase T;have af: ∀c∈keys ((E,Ob.dfr)::(w,.row [.int .i64 (m:Nat)] 1)::B) [],h0.n<=c:=fun c s=>(T.key_own s).elim (fun h=>by omega) (fun h=>H c h);subst hd hB;have T2:=T0.sub (L':=dB (E::r)++[(I,Ob.row [.func (.func 274) #[ptrTo u] #[]] 1)]) (G':=[]) (List.Sublist.cons_cons _ (List.sublist_cons_self _ _)) (List.Sublist.refl _);have K: ∀c∈keys (dB (E::r)++[(I,Ob.row [.func (.func 274) #[ptrTo u] #[]] 1)]) [],h0.n<=c:=fun c s=>af c (by simp only [keys,XP,XE,dB,XR,List.cons_append,X5]at s⊢;rcases s with h|h;exact .inl h;exact .inr (.inr h));by_cases e:m=i
     . subst e;simp only [BZ,r1,p,seval];have T3:=T2.base;refine dJ (gu (E::r) _ T3 fun J T4=>⟨rfl,_,rfl,?_⟩);refine⟨(T2.fr.trans T4.fr fun c s=>(T2.key_own s).symm),l',Rc.mo1 T4.fr (N K),pm,dn_done D km⟩
     . have e': ¬((m:Int)=(i:Int)):=(by omega);obtain⟨b0,be,an⟩:=Z.resolve_left e;replace G:=G.resolve_right (fun h=>e h.2);simp only [BZ,r0,r1,p,e',seval];refine step_ret (ua T2.ok Rc (i:=i) (k:=m) (by omega) G) ?_;rintro v h ⟨f,Rn⟩;have aL:=N K;have T3:=T2.step f (fun c s=>.inl s) (fun c s hM=>aL c (.inr hM) s);have f2:Mo (fun c=>c=z\/c=A) _ h:=f;have a0:h.load w 0 1=some [.int .i64 (m:Nat)]:=(by have a5:h0.n<=w:=af w (.tail _ m0);have:=f.get w (bC f.ok0 p) (fun hM=>by have:=lt w (.inr hM);omega);unfold Hp.load at p⊢;rw [this];exact p);simp only [BZ,a0,seval];exact ih m _ _ _ (by omega) ⟨E::r,_,rfl,T3,K,Rn,(tB l' (by omega) G).trans pm,dn_step D b0 G be an km,.inl (by omega),by simp [aw,r0,ah,r4]⟩
 . exact⟨[],l,rfl,S,fun c s=>by simp [keys,dB]at s;subst s;exact Q,RR,.refl _,D,C,by simp [aw,cD,ah,dK]⟩
end Go.Ab
end
section
namespace Go.Ab
theorem j9.push{f:Int->Option Value}{l:List Hd}(h:j9 f l){x:Hd}(c:x.id∉l.map Hd.id):j9 (eI f x.id (some (.int .i64 l.length))) (l++[x]):=by
 refine⟨fun i b=>?_,fun y v a=>?_⟩
 . unfold eI;simp at b;by_cases e:i=l.length
   . grind
   . rw [ou l _ (by omega),if_neg ?_]
     . exact h.1 i (by omega)
     grind
 . unfold eI at a;by_cases e:y=x.id
   . refine⟨l.length,by simp,?_⟩;grind
   . rw [if_neg e]at a;obtain⟨i,b,d⟩:=h.2 y v a;exact⟨i,by simp;omega,by grind⟩
theorem j9.cut{f:Int->Option Value}{l:List Hd}(h:j9 f l){m:Nat}(c:l.length=m+1):j9 (eI f (l.getD m default).id none) (l.take m):=by
 refine⟨fun i b=>?_,fun y v a=>?_⟩
 . rw [Xw]at b;rw [getD_take l (by omega)];unfold eI;rw [if_neg ?_]
   . exact h.1 i (by omega)
   . intro e;have:=h.inj (i:=i) (j:=m) (by omega) (by omega) (by omega);omega
 . unfold eI at a;by_cases e:y=(l.getD m default).id
   . grind
   . rw [if_neg e]at a;obtain⟨i,b,d⟩:=h.2 y v a;have:i≠m:=fun g=>(by grind);exact⟨i,by grind,by grind⟩
theorem j9.setKey{f:Int->Option Value}{l:List Hd}(h:j9 f l){i:Nat}(k:Int):j9 f (l.set i ⟨(l.getD i default).id,k⟩):=by
 have e: ∀j,((l.set i ⟨(l.getD i default).id,k⟩).getD j default).id=(l.getD j default).id:=fun j=>by grind
 refine⟨fun j a=>?_,fun y v b=>?_⟩
 . rw [e];exact h.1 j (by grind)
 . obtain⟨j,a,c⟩:=h.2 y v b;grind
theorem idxF_nil:j9 (fun _=>none) []:=⟨fun i a=>by simp at a,fun x v h=>by cases h⟩
theorem eu.take{cs:List Value}{cap:Nat}{l:List Hd}(c:eu cs cap l)(m:Nat):eu cs cap (l.take m):=
 ⟨c.len,Xj (by grind) c.le,fun i a=>by
  rw [Xw]at a;rw [getD_take l (by omega)];exact c.at0 i (by omega)⟩
theorem eu.push{cs a:List Value}{cap cap':Nat}{l:List Hd}(c:eu cs cap l){x:Hd}(d:a.length=cap'*2)(g:l.length<cap')(b: ∀j,j<l.length*2->a[j]? =cs[j]?)(h:a[l.length*2]? =some (.int .i64 x.id)/\a[l.length*2+1]? =some (.int .i64 x.key)):eu a cap' (l++[x]):=by
 refine⟨d,by simp;omega,fun i f=>?_⟩;simp at f;by_cases e:i=l.length
 . grind
 . rw [ou l _ (by omega),b _ (by omega),b _ (by omega)];exact c.at0 i (by omega)
theorem Ar{E:Env}{t e:TypeId}{b k len cap n:Nat}{kd:IntKind}(c:E.und t=some (.slice e))(d:E.sz e=some k)(f:n<=cap):fK E t (.slice (some ⟨b,0,some k⟩) len cap) none (some (.int kd (n:Int))) none=some (.slice (some ⟨b,0,some k⟩) n cap):=by have a: ∀n:Nat,iA (n:Int)=some n:=fun n=>rfl;simp_all[fK,fG,fF,Xi,cond_true,Xk,cond_false,Nat.sub_zero]
section
variable{M:Nat->Prop}{h0 h:Hp}{L:List (Nat×Ob)}{G:List GL}{E:Env}{t tx e:TypeId}{by_:Nat}{zs:List Value}
theorem St.appH{d cap:Nat}{cs:List Value}{l:List Hd}(S:St M h0 h ((d,.row cs 1)::L) G)(C:eu cs cap l)(H:E.und t=some (.slice e))(I:eK E e by_ 2 zs)(R:0<by_)(J:by_<=100)(r:d9 E tx=some false){x:Hd}{z:Value}(f:aR h 2 z=some (1,lG x))(U:l.length<1000000){ts:List TypeId}:
 ∃A w,dG E h (t::tx::ts) (.slice (some ⟨d,0,some 2⟩) l.length cap) z=some (A,w)/\ ∃a cap' g,w=.slice (some ⟨a,0,some 2⟩) (l.length+1) cap'/\St M h0 A ((a,.row g 1)::L) G/\eu g cap' (l++[x])/\(a=d\/h.n<=a):=by
 obtain⟨⟨i,K,rfl,c⟩,N,s⟩:=I;have B:Row h d cs 1:=S.row m0;have D:=C.len;by_cases V:l.length+1<=cap
 . obtain⟨y,W,O⟩:=B.store S.ok ono (o:=l.length*2) (vs:=lG x) (by rw [kD];omega) rfl;refine⟨h.put d y,_,?_,d,cap,_,rfl,S.put (i:=0) rfl O,?_,.inl rfl⟩
   . simp_all[dG,jP,fH,Xi,cond_true,lG,Xl]
   . refine C.push (by grind[pK,kD]) (by omega) (fun j P=>?_) ⟨?_,?_⟩
     . rw [jO (by rw [kD];omega),if_neg (by omega)]
     . rw [jO (by rw [kD];omega),if_pos ⟨XA _,by rw [kD];omega⟩,Ya];rfl
     . rw [jO (by rw [kD];omega),if_pos ⟨by omega,by rw [kD];omega⟩,Nat.add_sub_cancel_left];rfl
 . have F:cap=l.length:=(by have:=C.le;omega);obtain⟨q,el,k,m,Q⟩:=B;have u:jH q cs.length 0 (l.length*2) (lG x)=some (q.pushAll cs.length (lG x),cs.length+2):=(by unfold jH;rw [show l.length*2=cs.length by omega,Nat.beq_refl,Nat.beq_refl];rfl);have T:=S.dead.new (x:=.cells (q.pushAll cs.length (lG x)) (cs.length+2) e 1) (o:=.row (cs++lG x) 1) (by
    refine⟨q.pushAll cs.length (lG x),e,?_,?_,fun n=>?_⟩
    . rw [Hp.get_new _ _ S.dead.ok,if_pos rfl,XF];rfl
    . rw [XF];exact Tr.sized_pushAll _ m
    grind[Tr.get_pushAll])
   refine⟨_,.slice (some ⟨h.n,0,some 2⟩) (l.length+1) (l.length+1),?_,h.n,l.length+1,_,rfl,T,?_,.inr (XA _)⟩
   . simp only [dG,r,jP,H,K,c,f];unfold fH;have p:XN (l.length+1) cap=false:=by
      cases r:XN (l.length+1) cap with
      |false=>rfl|true=>exact absurd (lbt r) (by omega)
     rw [p];simp only [cond_false];have b:(XN ((l.length+1)*(i.bytes+1)) 70368744177664&&Nat.blt 0 i.bytes)=true:=(by have:(l.length+1)*(i.bytes+1)<=1000000*101:=Nat.mul_le_mul (by omega) (by omega);rw [Xi (by omega)];simp_all);have v:XW zs.length i.size=true:=(by rw [s,c];rfl);rw [b,N];simp only [cond_true,v];unfold om;simp only [k,c,u];rfl
   . refine C.push (by rw [XF,kD];omega) (by omega) (fun j P=>?_) ⟨?_,?_⟩
     . grind
     . rw [XS (by omega),show l.length*2-cs.length=0 by omega];rfl
     . rw [XS (by omega),show l.length*2+1-cs.length=1 by omega];rfl
theorem St.appH0(S:St M h0 h L G)(p:E.und t=some (.slice e))(q:eK E e by_ 2 zs)(v:0<by_)(r:by_<=100)(s:d9 E tx=some false){x:Hd}{m:Value}(d:aR h 2 m=some (1,lG x)){ts:List TypeId}:
 ∃n w,dG E h (t::tx::ts) (.slice none 0 0) m=some (n,w)/\ ∃b cap' f,w=.slice (some ⟨b,0,some 2⟩) 1 cap'/\St M h0 n ((b,.row f 1)::L) G/\eu f cap' [x]/\h.n<=b:=by
 obtain⟨⟨i,j,rfl,c⟩,u,k⟩:=q;have T:=S.new (x:=.cells (Tr.ofList (lG x)) 2 e 1) (o:=.row (lG x) 1) (pN S.ok (lG x) e 1);refine⟨_,.slice (some ⟨h.n,0,some 2⟩) 1 1,?_,h.n,1,_,rfl,T,⟨rfl,by simp,fun i j=>?_⟩,XA _⟩
 . simp only [dG,s,jP,p,j,c,d];unfold fH;have g:XN (0+1) 0=false:=rfl;rw [g];simp only [cond_false];have a:(XN ((0+1)*(i.bytes+1)) 70368744177664&&Nat.blt 0 i.bytes)=true:=(by rw [Xi (by omega)];simp_all);have l:XW zs.length i.size=true:=(by rw [k,c];rfl);rw [a,u];simp only [cond_true,l];unfold om;rw [show XW 0 0=true from rfl,c];rfl
 . have:i=0:=(by simpa using j);subst this;exact⟨rfl,rfl⟩
theorem St.rowS{i b d n cap c:Nat}{N:Int}{cs:List Value}{g:List (Value×Value×Nat)}{l:List Hd}{f:Int->Option Value}(S:St M h0 h [(b,.row cs 1),(i,.row [.slice (some ⟨b,0,some 2⟩) n cap,.map (some d),.int .i64 N] 1),(d,.map g c)] [])(C:eu cs cap l)(j:n=l.length)(k:d6 g c f)(m:j9 f l):fI h i b d cap N l:=by subst j;have a:=S.apart;simp only [keys,XR,Yb,XP,XE,List.nodup_cons,X5,List.not_mem_nil,or_false,not_or]at a;exact⟨S.row m1,⟨cs,g,c,f,S.row m0,(S.own _ m2).2,C,k,m⟩,fun e=>a.1.1 e.symm,a.2.1,a.1.2⟩
end
theorem gX{ρ:Operand->Value}{b:Bool}{t:TypeId}{a v:Operand}{h c:Hp}:cQ ρ b (.store t a v) h c=(match ρ a with| .pointer (some a)=>some (.blk a.block)|_=>none):=by simp only [cQ,dM,jG,fo,touch,cond_false];grind
theorem zz{ρ:Operand->Value}{b:Bool}{x:Operand}{ts:Array TypeId}{h c:Hp}:cQ ρ b (.call ⟨.builtin .len,#[x],ts⟩) h c=(match ρ x with| .map (some r)=>some (.blk r)| .slice (some a) _ _=>some (.blk a.block)|_=>none):=by simp only [cQ,dM,jG,fo,touch,cond_false];grind
theorem dn_del{E:Env}{cx:Cx}{Q:fC}{a:List Oper}{q:Nat}{ps:List (Nat×Nat)}{o:Oper}{os:List Oper}{i:Nat}{k:List Fr}{l:Loc}{c:Hp->List (Nat×Tch)}{h:Hp}{t:TypeId}{m key:Value}{P:Hp->Prop}(d: ∃b,mI E h t m key=some b/\P b)
 (f: ∀b,P b->Run E (lim E) cx Q (.opsD a q ps os (i+1) (c b)::k) .normal (l.put o.dst (.tuple #[])) b):DN E cx Q a q ps o os i k l c (delR E h t m key):=by
 obtain⟨b,e,g⟩:=d;unfold delR;rw [e];exact f b g
structure dr(h:Hp)(F:List Nat)(p:Value)(N:Nat)(K:Nat->Option Int):Prop where
 ex: ∃bh bm l,p=ptrTo bh/\mJ l/\iw l K/\(∀x∈l,x.id<N)/\
  ((l=[]/\F=[bh,bm]/\bh≠bm/\Row h bh [.slice none 0 0,.map (some bm),.int .i64 N] 1/\ ∃es c,h.get bm=some (.map es c)/\d6 es c (fun _=>none))\/ ∃bl cap,F=[bh,bl,bm]/\fI h bh bl bm cap N l)
theorem dr.mo{M:Nat->Prop}{h i:Hp}{F:List Nat}{p:Value}{N:Nat}{K:Nat->Option Int}(a:dr h F p N K)(g:Mo M h i)(d: ∀b∈F,¬M b):dr i F p N K:=by
 obtain⟨m,n,l,e,q,r,s,t⟩:=a.ex;refine⟨m,n,l,e,q,r,s,?_⟩;rcases t with⟨u,rfl,v,w,j,c,x,y⟩|⟨z,f,rfl,k⟩
 . exact .inl ⟨u,rfl,v,g.has (o:=.row _ 1) w (d _ (by simp)),j,c,g.has (o:=.map j c) x (d _ (by simp)),y⟩
 . exact .inr ⟨z,f,rfl,k.mo g (d _ (by simp)) (d _ (by simp)) (d _ (by simp))⟩
theorem dr.gr{h b:Hp}{F:List Nat}{p:Value}{N:Nat}{K:Nat->Option Int}(a:dr h F p N K)(g:Gr h b):dr b F p N K:=a.mo (M:=NoM) g.fr (fun _ _ h=>h)
theorem dr.lt{h:Hp}(f:h.t.Sized h.n){F:List Nat}{p:Value}{N:Nat}{K:Nat->Option Int}(a:dr h F p N K): ∀b∈F,b<h.n:=by
 obtain⟨n,o,l,e,q,r,s,g⟩:=a.ex;rcases g with⟨t,rfl,u,i,v,c,j,w⟩|⟨x,m,rfl,k⟩
 . intro b d;simp at d;rcases d with rfl|rfl
   . exact i.lt f
   . exact hU f j
 . intro b d;simp at d;exact k.lt f b d
theorem uV{l:List Hd}{K:Nat->Option Int}(h:iw l K){N:Nat}(a: ∀x∈l,x.id<N):l.length<=N:=by have:=rx N (l.map Hd.id) h.1 (fun x b=>by grind);simpa using this
end Go.Ab

end
section
namespace Go.Ab
open Go.Proofs
set_option maxRecDepth 10000
theorem xc{h0:Hp}(l:h0.t.Sized h0.n){N:Nat}:Ret zM 196 [.int .i64 N] h0 fun v f=>Gr h0 f/\ ∃F,dr f F v N (fun _=>none)/\ ∀b∈F,h0.n<=b:=by
 have S:=Si l;have m:max (N:Int) 0=(N:Int):=by omega
 refine aa (n:=9) (rs:=[.tmp 2]) rfl Tryz.e196 rfl rfl rfl (lbt rfl) ?_;simp only [BZ];refine ac qQ S ?_;clear S;intro h g S a;simp only [BZ,m,seval];refine ac (bg (by intro x e;cases e)) S ?_;clear S;intro h b S d;simp only [ae]at S;simp only [BZ,ab,seval];have i:=S.apart;simp only [keys,XR,Yb,XP,XE,List.nodup_cons,X5,List.not_mem_nil,or_false]at i;refine⟨S.gr,[b,g],⟨b,g,[],rfl,fun j _ o=>(by simp at o),cont_nil,fun x p=>(by cases p),.inl ⟨rfl,rfl,i.1,S.row m0,[],0,(S.own _ m1).2,rt⟩⟩,fun c k=>?_⟩;simp at k;rcases k with rfl|rfl
 . exact d
 . exact a
section
variable{h0:Hp}{F:List Nat}{p:Value}{N:Nat}{K:Nat->Option Int}
theorem vG(f:h0.t.Sized h0.n)(H:dr h0 F p N K): ∃m:Nat,aN zM 250 [p] h0 (.int .i64 m)/\(m=0↔ ∀v,K v=none):=by
 obtain⟨g,q,l,rfl,r,d,s,h⟩:=H.ex;refine⟨l.length,?_,?_⟩
 . have S:=Si f;obtain⟨a,n,c,m1,m2,b,i⟩: ∃a n c m1 m2,Row h0 g [.slice a n c,m1,m2] 1/\n=l.length:=by
    rcases h with⟨rfl,_,_,b,_⟩|⟨t,j,_,b⟩
    . exact⟨_,_,_,_,_,b,rfl⟩
    . exact⟨_,_,_,_,_,b.row,rfl⟩
   subst i;have k:=b.load1 (o:=0) rfl;refine aa (n:=11) (rs:=[.tmp 2]) rfl Tryz.e250 rfl rfl rfl (lbt rfl) ?_;simp only [BZ,ab,k,seval];exact S.gr
 . constructor
   . intro e;rw [List.length_eq_zero_iff.1 e]at d;exact d.nil
   . intro e;cases l with
     |nil=>rfl| cons x l=>
       have:=(d.2 x.id x.key).2 (by simp);rw [e]at this;cases this
theorem xf (y:h0.t.Sized h0.n) (H:dr h0 F p N K) {v:Nat}:aN zM 249 [p,.int .i64 v] h0 (.tuple #[.int .i64 ((K v).getD 0),.bool (K v).isSome]):=by
 have S:=Si y;obtain⟨m,a,A⟩:=vG y H;obtain⟨O,P,l,rfl,Q,r,T,I⟩:=H.ex;by_cases b:m=0
 . subst b;have e:=A.1 rfl v;rw [e];refine aa (n:=32) (rs:=[.tmp 4,.tmp 5]) rfl Tryz.e249 rfl rfl rfl (lbt rfl) ?_;simp only [BZ,seval];refine ag (a) ?_;intro h g;replace S:=S.call g;clear g;simp only [BZ,ab,Xc,seval];exact⟨rfl,S.gr⟩
 . have d: ¬((m:Int)=0):=(by omega);rcases I with⟨rfl,_⟩|⟨U,J,_,R⟩
   . exact absurd (A.2 r.nil) b
   . refine aa (n:=32) (rs:=[.tmp 4,.tmp 5]) rfl Tryz.e249 rfl rfl rfl (lbt rfl) ?_;simp only [BZ,seval];refine ag (a) ?_;intro h g;replace S:=S.call g;replace R:=R.gr g;clear g;obtain⟨V,W,c,f,s,t,C,L,B⟩:=R.ex;have M:=R.row.load1 (o:=0) rfl;have D:=R.row.load1 (o:=1) rfl;have q:=ra (x:=(v:Int)) Tryz.t232.1 Tryz.t3.1 (z:=.int .i64 0) (by kernel_rfl) t L;cases E:K v with
     | none=>
       have u:f v=none:=by
        cases hf:f v with
        |none=>rfl| some w=>
          obtain⟨i,j,e⟩:=B.2 v w hf;have:=r.at j;rw [show(l.getD i default).id=v by omega,E]at this;cases this
       rw [u]at q;simp only [BZ,ab,d,D,q,Xx,Xk,seval];exact S.gr
     | some k=>
       obtain⟨i,j,e⟩:=r.idx E;have u:f v=some (.int .i64 i):=(by have:=B.1 i j;rwa [e]at this);rw [u]at q;have G:=C.ld1 s j;rw [e]at G;simp only [BZ,ab,d,M,D,q,Xs,j,G,seval];exact S.gr
theorem qE(ok:h0.t.Sized h0.n)(H:dr h0 F p N K){v:Nat}(hv:v<N)(hN:N<=1000)(P:K v=none){k:Int}:
 Ret zM 210 [p,.int .i64 v,.int .i64 k] h0 fun r h'=>Mo (· ∈F) h0 h'/\ ∃F',dr h' F' p N (c8 K v (some k))/\ ∀b∈F',b∈F\/h0.n<=b:=by
 obtain⟨a,s,l,rfl,ho,m,hlt,D⟩:=H.ex;have af:=uV m hlt;have c1: ¬((v:Int)<0):=by omega
 have c2: ¬((N:Int)<=(v:Int)):=by omega
 have hn:=m.free P;rcases D with⟨rfl,rfl,T,hr,U,c,g,E⟩|⟨G,u,rfl,R⟩
 . have S:=St.init2 (M:=(· ∈[a,s])) ok (o1:=.row _ 1) (o2:=.map U c) hr g T (by simp) (by simp);have Q:=ra (x:=(v:Int)) Tryz.t232.1 Tryz.t3.1 (z:=.int .i64 0) (by kernel_rfl) g E;refine aa (n:=71) (rs:=[.tmp 6]) rfl Tryz.e210 rfl rfl rfl (lbt rfl) ?_;simp only [BZ,Q,c1,c2,Xx,Xk,S.ld (b:=a) (o:=1) m0 rfl,S.ld (b:=a) (o:=2) m0 rfl,seval];refine ar (ax rfl) (q:=0) (ps:=[]) (by kernel_rfl) ?_;simp only [BZ,cls,Xc,S.ld (b:=a) (o:=0) m0 rfl,S.ld (b:=a) (o:=1) m0 rfl,seval];refine df (S.mputI (i:=1) rfl Tryz.t232.1 Tryz.t3.1 E _) ?_;clear S;rintro h ⟨_,V,c',y,S⟩;simp only [LC]at S;simp only [BZ,S.ld (b:=a) (o:=0) m0 rfl,S.ld (b:=a) (o:=1) m0 rfl,seval];refine ac (bV (by exact Tryz.t321.1) (by exact XY) (by decide) (by rfl)) S ?_;clear S;intro h I S J;simp only [LC,a9,bQ,ae,Xv,Xl,Xn,XC,seval]at S;simp only [BZ,S.ld (b:=a) (o:=0) m1 rfl,S.ld (b:=a) (o:=1) m1 rfl,seval];have j:aR h 2 (.slice (some ⟨I,0,none⟩) 1 1)=some (1,lG ⟨v,k⟩):=(by simp only [aR];rw [S.lds (b:=I) (o:=0) (n:=1*2) m0 (lbt rfl)];rfl);replace S:=S.drop1;refine dP (S.appH0 Tryz.t321.1 XY (by decide) (by decide) Tryz.t321.2.2.2.2.2 j) ?_;clear S j;rintro h w ⟨G,u,cs,rfl,S,C,W⟩;simp only [BZ,seval];refine aC (aA S (i:=1) rfl ?_ ?_ ?_ ono) ?_
   . exact(by simp only [FA0])
   . exact(by exact bO)
   . exact Xg (lbt rfl)
   clear S;rintro h ⟨S,X⟩;clear X;simp only [LC,ae,lay,Xp,Xq,seval]at S;simp only [BZ];refine ar (ax rfl) (q:=0) (ps:=[]) (by kernel_rfl) ?_;simp only [BZ,cls,Xc,S.ld (b:=a) (o:=0) m1 rfl,S.ld (b:=a) (o:=1) m1 rfl,seval];have R:fI h a G s u N ([]++[⟨v,k⟩]):=S.rowS C rfl y (idxF_nil.push hn);have Y:am .i64 0=((0:Nat):Int):=rfl;rw [Y];refine cu (up_ok S.ok R (i:=0) (by simp) (by simp) (xU ho ⟨v,k⟩)) ?_;have d:=(S.own _ m0).1;rintro r h ⟨f,Z,R',L,A⟩;simp only [BZ,Xc,seval];refine⟨S.fr.trans f (fun c m=>?_),[a,G,s],⟨a,s,Z,rfl,A,(m.push P k).perm L,fun x D=>?_,.inr ⟨G,u,rfl,R'⟩⟩,fun b O=>?_⟩
   . rcases m with rfl|rfl
     . exact d.symm
     . exact .inl (by simp)
   . have:=L.mem_iff.1 D;simp at this;subst this;exact hv
   . simp at O;rcases O with rfl|rfl|rfl
     . exact .inl (by simp)
     . exact d.symm
     . exact .inl (by simp)
 . obtain⟨cs,U,c,f,ad,g,C,E,IF⟩:=R.ex;have S:=St.init3 (M:=(· ∈[a,G,s])) ok (o1:=.row cs 1) (o2:=.row _ 1) (o3:=.map U c) ad R.row g R.ne.1.symm R.ne.2.2 R.ne.2.1 (by simp) (by simp) (by simp);have Q:=ra (x:=(v:Int)) Tryz.t232.1 Tryz.t3.1 (z:=.int .i64 0) (by kernel_rfl) g E;have fv:f v=none:=by
    cases hf:f v with
    |none=>rfl| some w=>
      obtain⟨i,hi,e⟩:=IF.2 v w hf;have:=m.at hi;rw [show(l.getD i default).id=v by omega,P]at this;cases this
   rw [fv]at Q;refine aa (n:=71) (rs:=[.tmp 6]) rfl Tryz.e210 rfl rfl rfl (lbt rfl) ?_;simp only [BZ,Q,c1,c2,Xx,Xk,S.ld (b:=a) (o:=1) m1 rfl,S.ld (b:=a) (o:=2) m1 rfl,seval];refine ar (ax rfl) (q:=0) (ps:=[]) (by kernel_rfl) ?_;simp only [BZ,cls,S.ld (b:=a) (o:=0) m1 rfl,S.ld (b:=a) (o:=1) m1 rfl,seval];refine df (S.mputI (i:=2) rfl Tryz.t232.1 Tryz.t3.1 E _) ?_;clear S;rintro h ⟨_,V,c',y,S⟩;simp only [LC]at S;simp only [BZ,S.ld (b:=a) (o:=0) m1 rfl,S.ld (b:=a) (o:=1) m1 rfl,seval];refine ac (bV (by exact Tryz.t321.1) (by exact XY) (by decide) (by rfl)) S ?_;clear S;intro h I S J;simp only [LC,a9,bQ,ae,Xv,Xl,Xn,XC,seval]at S;simp only [BZ,S.ld (b:=a) (o:=0) m2 rfl,S.ld (b:=a) (o:=1) m2 rfl,seval];have j:aR h 2 (.slice (some ⟨I,0,none⟩) 1 1)=some (1,lG ⟨v,k⟩):=(by simp only [aR];rw [S.lds (b:=I) (o:=0) (n:=1*2) m0 (lbt rfl)];rfl);replace S:=S.drop1;refine dP (S.appH C Tryz.t321.1 XY (by decide) (by decide) Tryz.t321.2.2.2.2.2 j (by omega)) ?_;clear S j;rintro h w ⟨B,t,ai,rfl,S,C',W⟩;simp only [BZ,seval];refine aC (aA S (i:=1) rfl ?_ ?_ ?_ ono) ?_
   . exact(by simp only [FA0])
   . exact(by exact bO)
   . exact Xg (lbt rfl)
   clear S;rintro h ⟨S,X⟩;clear X;simp only [LC,ae,lay,Xp,Xq,seval]at S;simp only [BZ];refine ar (ax rfl) (q:=0) (ps:=[]) (by kernel_rfl) ?_;have Y:am .i64 (((l.length+1:Nat):Int)-1)=((l.length:Nat):Int):=(by rw [wrap64]<;>omega);simp only [BZ,cls,Y,S.ld (b:=a) (o:=0) m1 rfl,S.ld (b:=a) (o:=1) m1 rfl,seval];have R:fI h a B s t N (l++[⟨v,k⟩]):=S.rowS C' (by simp) y (IF.push hn);refine cu (up_ok S.ok R (i:=l.length) (by simp) (by simp;omega) (xU ho ⟨v,k⟩)) ?_;have d:=(S.own _ m0).1;rintro r h ⟨f,Z,R',L,A⟩;simp only [BZ,seval];refine⟨S.fr.trans f (fun c m=>?_),[a,B,s],⟨a,s,Z,rfl,A,(m.push P k).perm L,fun x D=>?_,.inr ⟨B,t,rfl,R'⟩⟩,fun b O=>?_⟩
   . rcases m with rfl|rfl
     . exact d.symm
     . exact .inl (by simp)
   . have:=L.mem_iff.1 D;simp at this;rcases this with h|rfl
     . exact hlt x h
     . exact hv
   . simp at O;rcases O with rfl|rfl|rfl
     . exact .inl (by simp)
     . exact d.symm
     . exact .inl (by simp)
theorem sU(U:h0.t.Sized h0.n)(H:dr h0 F p N K){v:Nat}(hN:N<=1000){t k:Int}(V:K v=some t)(hle:k<=t):
 Ret zM 209 [p,.int .i64 v,.int .i64 k] h0 fun r G=>Mo (· ∈F) h0 G/\dr G F p N (c8 K v (some k)):=by
 obtain⟨d,w,l,rfl,W,g,hlt,y⟩:=H.ex;have X:=uV g hlt;obtain⟨i,a,u⟩:=g.idx V;have Y:v<N:=by have:=hlt (l.getD i default) (by rw [Xa,Xb a];exact Xy a);rwa [u]at this
 have Z: ¬((v:Int)<0):=by omega
 have c2: ¬((N:Int)<=(v:Int)):=by omega
 have c3: ¬(t<k):=by omega
 rcases y with⟨rfl,_⟩|⟨A,j,rfl,R⟩
 . simp at a
 . obtain⟨I,es,c,f,m,q,C,J,L⟩:=R.ex;have S:=St.init3 (M:=(· ∈[d,A,w])) U (o1:=.row I 1) (o2:=.row _ 1) (o3:=.map es c) m R.row q R.ne.1.symm R.ne.2.2 R.ne.2.1 (by simp) (by simp) (by simp);have O:=ra (x:=(v:Int)) Tryz.t232.1 Tryz.t3.1 (z:=.int .i64 0) (by kernel_rfl) q J;have fv:f v=some (.int .i64 i):=(by have:=L.1 i a;rwa [u]at this);rw [fv]at O;have P:=C.ld1 m a;have Q:=C.len;have ad:=C.le;have ek:(l.getD i default).key=t:=(by rw [u]);have B:(l.getD i default).id=v:=(by rw [u]);rw [ek]at P;refine aa (n:=61) (rs:=[.tmp 6]) rfl Tryz.e209 rfl rfl rfl (lbt rfl) ?_;simp only [BZ,O,Z,c2,c3,a,P,Xs,S.ld (b:=d) (o:=0) m1 rfl,S.ld (b:=d) (o:=1) m1 rfl,S.ld (b:=d) (o:=2) m1 rfl,seval];refine aC (S.store (i:=0) (off:=i*2+1) rfl Tryz.t2.2.2.1 (by intro x e;cases e) rfl rfl (by omega) ono) ?_;clear S;rintro h ⟨S,_⟩;simp only [LC,ae]at S;have T:=C.setKey a k;generalize lay I (i*2+1) _=af at S T;simp only [BZ,S.ld (b:=d) (o:=0) m1 rfl,S.ld (b:=d) (o:=1) m1 rfl,seval];have R1:fI h d A w j N (l.set i ⟨(l.getD i default).id,k⟩):=S.rowS T (by rw [Xh]) J (L.setKey k);refine step_ret (up_ok S.ok R1 (i:=i) (by rw [Xh];exact a) (by rw [Xh];omega) (CC W (by unfold Ab.hle;simp only [];omega))) ?_;rintro r h ⟨f,l',R',D,E⟩;simp only [BZ,seval];have s:=g.lower a k;rw [B]at s;refine⟨S.fr.trans f (fun c g=>?_),⟨d,w,l',rfl,E,(by rw [B]at D;exact s.perm D),fun x y=>?_,.inr ⟨A,j,rfl,R'⟩⟩⟩
   . rcases g with rfl|rfl<;>exact .inl (by simp)
   . have:=D.mem_iff.1 y;rcases List.mem_or_eq_of_mem_set this with h|rfl
     . exact hlt x h
     . rw [B];exact Y
end
end Go.Ab

end
section
namespace Go.Ab
open Go.Proofs
set_option maxRecDepth 10000
section
variable{h0:Hp}{F:List Nat}{p:Value}{N:Nat}{K:Nat->Option Int}
theorem wY(ok:h0.t.Sized h0.n)(H:dr h0 F p N K)(hN:N<=1000):
 Ret zM 201 [p] h0 fun r h'=>(r=.tuple #[.int .i64 0,.int .i64 0,.bool false]/\(∀v,K v=none)/\Gr h0 h')\/ ∃v k,r=.tuple #[.int .i64 (v:Nat),.int .i64 k,.bool true]/\K v=some k/\(∀u k',K u=some k'->k<k'\/(k=k'/\v<=u))/\Mo (· ∈F) h0 h'/\dr h' F p N (c8 K v none):=by
 obtain⟨m,B,O⟩:=vG ok H;obtain⟨d,D,l,rfl,ho,t,hlt,hx⟩:=H.ex;have a0:=uV t hlt;by_cases E:m=0
 . subst E;have S:=Si ok;refine aa (n:=55) (rs:=[.tmp 2,.tmp 3,.tmp 4]) rfl Tryz.e201 rfl rfl rfl (lbt rfl) ?_;simp only [BZ,seval];refine ag (B) ?_;intro h g;replace S:=S.call g;clear g;simp only [BZ,ab,Xc,seval];exact .inl ⟨O.1 rfl,S.gr⟩
 . have ad: ¬((m:Int)=0):=(by omega);rcases hx with⟨rfl,_⟩|⟨y,cap,rfl,R⟩
   . exact absurd (O.2 t.nil) E
   . have a:0<l.length:=by
      cases l with
      |nil=>exact absurd (O.2 t.nil) E|cons x l=>simp
     have S:=Si ok;refine aa (n:=55) (rs:=[.tmp 2,.tmp 3,.tmp 4]) rfl Tryz.e201 rfl rfl rfl (lbt rfl) ?_;simp only [BZ,seval];refine ag (B) ?_;intro h g;replace S:=S.call g;replace R:=R.gr g;clear g;have g0:=S.gr;clear S;obtain⟨cs,es,c,f,z,G,C,MI,IF⟩:=R.ex;have r0:=R.row.load1 (o:=0) rfl;have l2:=C.ld2 z a;have S:=Si g0.ok;have i0:jg (.int .i64 0) l.length=some 0:=ju (i:=0) a;have w1:am .i64 ((l.length:Int)-1)=((l.length-1:Nat):Int):=(by rw [wrap64]<;>omega);simp only [BZ,ad,seval];refine ar (kI (ord:=[14,0,1,2,3,4,5,6,7,8,9,10,11,12,13,15,16]) rfl rfl (by simp only [dW,nj,eU,List.getElem?_cons_zero,List.getElem?_cons_succ,List.map_toArray,XR,Yb,cond_true,cond_false,seval];exact rfl)) (q:=1) (ps:=[(13,15),(12,15)]) (by kernel_rfl) ?_;simp only [BZ,cls,seval];refine dL ay S ?_;clear S;intro h s S an aL;simp only [BZ,cls,S.old r0 (fun h=>h),S.old l2 (fun h=>h),i0,w1,seval];refine df (S.store (i:=0) rfl ?_ ?_ rfl rfl ?_ ono) ?_
     . exact(by exact Tryz.t323.2.1)
     . exact(by intro x e;cases e)
     . exact lbt rfl
     clear S;rintro h ⟨S,mo⟩;clear mo;simp only [LC,ae,lay,Xp,Xq,seval]at S;simp only [BZ,cls,S.old r0 (fun h=>h),S.old l2 (fun h=>h),seval];have g1:=S.gr;have R1:=R.gr g1;have Y:=S.lds (b:=s) (o:=0) (n:=2) m0 (lbt rfl);have A:=R.lt g0.ok;have nb:s≠d:=fun e=>(by have:=A d (.inl rfl);omega);have P:s≠y:=fun e=>(by have:=A y (.inr (.inl rfl));omega);refine⟨by simp only [aK,aS,aH,aU,aJ,ne_eq,not_false_eq_true,aW,aZ,aT,aM,bA,ca,aD,XQ,ah,gX,zz,cS nb,cS nb.symm,cS P,cS P.symm,seval],?_⟩;have sw:Ret zM 251 [ptrTo d,.int .i64 0,.int .i64 ((l.length-1:Nat):Int)] _ _:=ua S.ok R1 (i:=0) (k:=l.length-1) a (by omega);refine step_ret sw ?_
     --refine step_ret (ua S.ok R1 (i := 0) (k := l.length - 1) a (by omega)) ?_
     rintro r I ⟨Z,L⟩;have gg:Gr h0 h:=g0.trans g1;have mA:Mo (· ∈[d,y,D]) h0 I:=(gg.fr (M:=(· ∈[d,y,D]))).trans Z (fun c t=>.inl (by rcases t with rfl|rfl<;>simp));have J:I.load s 0 2=some [.int .i64 (l.getD 0 default).id,.int .i64 (l.getD 0 default).key]:=(by have:=Z.get s (bC Z.ok0 Y) (fun hM=>by have:=A s (.inr hM);omega);unfold Hp.load at Y⊢;rw [this];exact Y);have a1:=L.lt mA.ok;have af:=mA.ok;have Q:=bC mA.ok J;clear S R R1 Z sw z G C MI IF Y l2 r0;obtain⟨cs,es,c,f,z,G,C,MI,IF⟩:=L.ex;have S:=St.init3 (M:=(· ∈[d,y,D])) (h:=I) af (o1:=.row cs 1) (o2:=.row _ 1) (o3:=.map es c) z L.row G L.ne.1.symm L.ne.2.2 L.ne.2.1 (by simp) (by simp) (by simp);have sl:=Ar (kd:=.i64) (b:=y) (len:=(sw l 0 (l.length-1)).length) (n:=l.length-1) Tryz.t321.1 Tryz.t330.2.1 (cap:=cap) (by have:=C.le;rw [ip]at this;omega);simp only [BZ,Xz,XL,sl,S.ld (b:=d) (o:=0) m1 rfl,S.ld (b:=d) (o:=1) m1 rfl,seval];refine aC (aA S (i:=1) rfl ?_ ?_ ?_ ono) ?_
     . exact(by simp only [FA0])
     . exact(by exact bO)
     . exact Xg (lbt rfl)
     clear S;rintro h ⟨S,mo⟩;clear mo;simp only [LC,ae,lay,Xp,Xq,seval]at S;simp only [BZ,S.ld (b:=d) (o:=0) m1 rfl,S.ld (b:=d) (o:=1) m1 rfl];refine ar (ax rfl) (q:=0) (ps:=[]) (by kernel_rfl) ?_;have T: ¬s∈[d,y,D]:=fun O=>(by have:=A s (by simpa using O);omega);have U:I.load s 0 1=some [.int .i64 (l.getD 0 default).id]:=(by have:=kx J (i:=0) (m:=1) (by omega);simpa using this);have ai:I.load s 1 1=some [.int .i64 (l.getD 0 default).key]:=(by have:=kx J (i:=1) (m:=1) (by omega);simpa using this);simp only [BZ,cls,S.old U T,S.ld (b:=d) (o:=1) m1 rfl,seval];refine dn_del (S.mdelI (i:=2) rfl Tryz.t232.1 Tryz.t3.1 MI) ?_;clear S;rintro h ⟨_,a2,c',ak,S⟩;simp only [LC]at S;simp only [BZ,seval];have V:(sw l 0 (l.length-1)).length=l.length:=ip _ _ _;have w:=iX l (i:=0) (k:=l.length-1) a (by omega) (l.length-1);rw [if_pos rfl]at w;have W:=IF.cut (m:=l.length-1) (by omega);rw [w]at W;have tl:((sw l 0 (l.length-1)).take (l.length-1)).length=l.length-1:=(by rw [Xw,V];omega);have R3:fI h d y D cap N ((sw l 0 (l.length-1)).take (l.length-1)):=S.rowS (C.take _) tl.symm ak W;have dn:Ret zM 252 [ptrTo d,.int .i64 0] h _:=down_ok S.ok R3 (i:=0) (by
      by_cases e:l.length-1=0
      . exact .inr ⟨List.length_eq_zero_iff.1 (by rw [tl,e]),rfl⟩
      . exact .inl (by omega)) (by omega) (heap_pop ho a)
     refine step_ret dn ?_;rintro r h ⟨fB,l',R',pm,al⟩;have mB:Mo (· ∈[d,y,D]) I h:=S.fr.trans fB (fun c t=>.inl (by rcases t with rfl|rfl<;>simp));have X: ∀{o x},I.load s o 1=some x->h.load s o 1=some x:=fun e=>(by have:=mB.get s Q T;unfold Hp.load at e⊢;rw [this];exact e);simp only [BZ];refine ar (ax rfl) (q:=0) (ps:=[]) (by kernel_rfl) ?_;simp only [BZ,cls,ab,X U,X ai,seval];refine .inr ⟨(l.getD 0 default).id,(l.getD 0 default).key,rfl,t.at a,fun u k' hu=>?_,mA.trans mB (fun c t=>.inl t),⟨d,D,l',rfl,al,(t.pop a).perm pm,fun x hx=>?_,.inr ⟨y,cap,rfl,R'⟩⟩⟩
     . obtain⟨j,hj,e⟩:=t.idx hu;have:=heap_min ho j hj;rw [e]at this;unfold Ab.hle at this;simp only []at this;omega
     . exact hlt x ((tB l a (by omega)).mem_iff.1 (XZ (pm.mem_iff.1 hx)))
end
end Go.Ab

end
section
namespace Go.Ab
theorem Wk.trans{B:List Arc}{a b c x y:Nat}(h:Wk B a b x)(k:Wk B b c y):Wk B a c (x+y):=by
 induction k with
 |nil=>exact h| @snoc w e d _ f=>exact Wk.snoc' f d rfl rfl (by omega)
theorem Wk.back{B C:List Arc}(c: ∀a∈B,∃b∈C,b.s=a.t/\b.t=a.s/\b.w=a.w){m v w x y:Nat}(h:Wk B v w x)(k:Wk C m w y):Wk C m v (x+y):=by
 induction h generalizing y with
 |nil=>rw [Xl];exact k| @snoc z e d _ f=>
   obtain⟨b,g,i,j,l⟩:=c e d;have:=f (Wk.snoc' k g i j rfl);rw [l]at this;rw [show z+e.w+y=z+(y+e.w) by omega];exact this
theorem IsD.wk{B:List Arc}{s v x w:Nat}(h:IsD B s v x)(k:Wk B s v w):x<FAR/\x<=w/\Wk B s v x:=by
 rcases h with⟨a,b,c⟩|⟨a,b⟩
 . exact⟨a,c w k,b⟩
 . exact absurd k (b w)
theorem IsD.far{B:List Arc}{s v x:Nat}(h:IsD B s v x)(d:x<FAR):Wk B s v x:=by
 rcases h with⟨a,b,c⟩|⟨a,b⟩
 . exact b
 . omega
theorem tri_to{B C:List Arc}(c: ∀a∈B,∃b∈C,b.s=a.t/\b.t=a.s/\b.w=a.w){m v w d p q:Nat}(e:IsD B v w d)(f:IsD C m v p)(hq:IsD C m w q)(g:d<FAR)(h:q<FAR):p<FAR/\p<=d+q:=by have:=f.wk (Wk.back c (e.far g) (hq.far h));exact⟨this.1,this.2.1⟩
theorem tri_fr{B:List Arc}{m v w d p q:Nat}(a:IsD B v w d)(b:IsD B m v p)(hq:IsD B m w q)(c:d<FAR)(e:p<FAR):q<FAR/\q<=p+d:=by have:=hq.wk ((b.far e).trans (a.far c));exact⟨this.1,this.2.1⟩
end Go.Ab

end
section
namespace Go.Ab
structure Ev where
 kind:Nat
 id:Nat
 lab:Nat
def gG(e:Ev):List Value:=[.int .i64 e.kind,.int .i64 0,.int .i64 e.id,.int .i64 e.lab]
theorem m9(e:Ev):(gG e).length=4:=rfl
structure SS where
 K:Nat->Option Int
 L:Nat->Nat
 P:Nat->List Nat
 O:List Nat
 ev:List Ev
structure Fd where
 dist:Nat
 arcs:List Nat
 ev:List Ev
def Pops(K:Nat->Option Int)(v:Nat)(k:Int):Prop:=K v=some k/\ ∀u a,K u=some a->k<a\/(k=a/\v<=u)
theorem Pops.uniq{K:Nat->Option Int}{v u:Nat}{k k':Int}(h:Pops K v k)(g:Pops K u k'):v=u/\k=k':=by have a:=h.2 _ _ g.1;have b:=g.2 _ _ h.1;omega
def lq(P:Nat->List Nat)(v:Nat)(l:List Nat):Nat->List Nat:=fun u=>if u=v then l else P u
def dz(pi:Nat->Int)(σ:SS)(v lab:Nat)(p:List Nat):SS:=
 if v∈σ.O\/(FAR:Int)<=pi v\/((σ.K v).isSome=true/\σ.L v<=lab)then σ else⟨c8 σ.K v (some (lab+pi v)),cV σ.L v lab,lq σ.P v p,σ.O,σ.ev⟩
def dC(σ:SS)(v:Nat):SS:=⟨c8 σ.K v none,σ.L,σ.P,σ.O++[v],σ.ev++[⟨0,v,σ.L v⟩]⟩
def evS(σ:SS)(e:Ev):SS:=⟨σ.K,σ.L,σ.P,σ.O,σ.ev++[e]⟩
def scan1(A:List Arc)(al:Nat->Bool)(pi:Nat->Int)(v:Nat)(σ:SS)(a:Nat):SS:=
 if al a=true then dz pi (evS σ ⟨1,a,0⟩) (A.getD a default).t (σ.L v+(A.getD a default).w) (a::σ.P v)else σ
def qq(A:List Arc)(al:Nat->Bool)(pi:Nat->Int)(v:Nat)(σ:SS):SS:=(outs A Arc.s A.length v).foldl (scan1 A al pi v) σ
def dg(pi:Nat->Int)(s:Nat):SS:=dz pi ⟨fun _=>none,fun _=>0,fun _=>[],[],[]⟩ s 0 []
inductive Ends(A:List Arc)(al:Nat->Bool)(pi:Nat->Int)(to:Nat):SS->Fd->Prop where
 |none {σ:SS}:(∀v,σ.K v=none)->Ends A al pi to σ ⟨FAR,[],σ.ev⟩
 |hit {σ:SS} {k:Int}:Pops σ.K to k->Ends A al pi to σ ⟨σ.L to,(σ.P to).reverse,(dC σ to).ev⟩
 |step {σ:SS} {v:Nat} {k:Int} {r:Fd}:Pops σ.K v k->v≠to->Ends A al pi to (qq A al pi v (dC σ v)) r->Ends A al pi to σ r
theorem Ends.uniq{A:List Arc}{al:Nat->Bool}{pi:Nat->Int}{to:Nat}{σ:SS}{r q:Fd}(h:Ends A al pi to σ r)(g:Ends A al pi to σ q):r=q:=by
 induction h with
 | none d=>
   cases g with
   |none _=>rfl|hit a=>have:=a.1;grind|step a _ _=>have:=a.1;grind
 | hit a=>
   cases g with
   |none d=>have:=a.1;grind|hit _=>rfl|step c b _=>exact absurd (c.uniq a).1 b
 | step a b _ e=>
   cases g with
   |none d=>have:=a.1;grind|hit c=>exact absurd (a.uniq c).1 b| step c _ f=>
     obtain⟨rfl,_⟩:=a.uniq c;exact e f
section
variable{A:List Arc}{N s:Nat}{al:Nat->Bool}{pi:Nat->Int}{σ:SS}
structure Sv(A:List Arc)(N s:Nat)(al:Nat->Bool)(pi:Nat->Int)(σ:SS):Prop where
 nd:σ.O.Nodup
 lt: ∀v∈σ.O,v<N
 op: ∀v k,σ.K v=some k->v<N/\v∉σ.O/\pi v<(FAR:Int)/\k=σ.L v+pi v
 bd: ∀v,σ.L v<=σ.O.length*du/\(σ.P v).length<=σ.O.length
 pc: ∀v∈σ.O,pi v<(FAR:Int)
 path: ∀v,(v∈σ.O\/σ.K v≠none)->(v=s/\σ.P v=[]/\σ.L v=0)\/ ∃a,a<A.length/\al a=true/\(A.getD a default).t=v/\(A.getD a default).s∈σ.O/\σ.P v=a::σ.P (A.getD a default).s/\σ.L v=σ.L (A.getD a default).s+(A.getD a default).w
theorem Sv.len(h:Sv A N s al pi σ):σ.O.length<=N:=rx N σ.O h.nd h.lt
theorem Sv.evS(h:Sv A N s al pi σ)(e:Ev):Sv A N s al pi (evS σ e):=⟨h.nd,h.lt,h.op,h.bd,h.pc,h.path⟩
theorem lN(b:s<N):Sv A N s al pi (dg pi s):=by
 unfold dg dz;have z:Sv A N s al pi ⟨fun _=>none,fun _=>0,fun _=>[],[],[]⟩:=
  ⟨.nil,fun v h=>(by cases h),fun v k h=>(by cases h),fun v=>⟨XI _,XI _⟩,fun v h=>(by cases h),fun v h=>h.elim (fun h=>by cases h) (fun h=>absurd rfl h)⟩
 split
 . exact z
 . rename_i a;simp only [not_or]at a;refine⟨.nil,fun v h=>(by cases h),fun v k h=>?_,fun v=>⟨?_,?_⟩,fun v h=>(by cases h),fun v h=>?_⟩
   . grind[c8,cV]
   . simp only [cV];split<;>simp
   . simp only [lq];split<;>simp
   . by_cases e:v=s
     . subst e;exact .inl ⟨rfl,by simp [lq],by simp [cV]⟩
     . simp [c8,e]at h
structure me(σ τ:SS):Prop where
 O:τ.O=σ.O
 L: ∀u∈σ.O,τ.L u=σ.L u
 P: ∀u∈σ.O,τ.P u=σ.P u
theorem me.refl:me σ σ:=⟨rfl,fun _ _=>rfl,fun _ _=>rfl⟩
theorem me.trans{b c:SS}(h:me σ b)(g:me b c):me σ c:=
 ⟨g.O.trans h.O,fun u a=>(g.L u (by rw [h.O];exact a)).trans (h.L u a),fun u a=>(g.P u (by rw [h.O];exact a)).trans (h.P u a)⟩
theorem Sv.reach(h:Sv A N s al pi σ){a lab v:Nat}{p:List Nat}(o:a<A.length)(d:al a=true)(r:(A.getD a default).t=v)(C:v<N)(f:(A.getD a default).s∈σ.O)(t:lab=σ.L (A.getD a default).s+(A.getD a default).w)(w:p=a::σ.P (A.getD a default).s)
 (b1:lab<=σ.O.length*du) (b2:p.length<=σ.O.length):Sv A N s al pi (dz pi σ v lab p)/\me σ (dz pi σ v lab p):=by
 unfold dz
 split
 . exact⟨h,.refl⟩
 . rename_i j;simp only [not_or]at j;obtain⟨x,D,E⟩:=j;have q: ∀u∈σ.O,u≠v:=fun u c e=>x (by grind);refine⟨⟨h.nd,h.lt,fun u k g=>?_,fun u=>⟨?_,?_⟩,h.pc,fun u c=>?_⟩,⟨rfl,fun u c=>by simp [cV,q u c],fun u c=>by simp [lq,q u c]⟩⟩
   . simp only [c8,cV]at g⊢
     split at g
     . grind
     . rename_i e;rw [if_neg e];exact h.op u k g
   . simp only [cV];split
     . exact b1
     . exact(h.bd u).1
   . simp only [lq];split
     . exact b2
     . exact(h.bd u).2
   . have y:cV σ.L v lab (A.getD a default).s=σ.L (A.getD a default).s:=if_neg (q _ f);have z:lq σ.P v p (A.getD a default).s=σ.P (A.getD a default).s:=if_neg (q _ f);by_cases e:u=v
     . subst e;refine .inr ⟨a,o,d,r,f,?_,?_⟩
       . show lq σ.P u p u=a::lq σ.P u p (A.getD a default).s;rw [z,<-w];exact if_pos rfl
       . show cV σ.L u lab u=cV σ.L u lab (A.getD a default).s+(A.getD a default).w;rw [y,<-t];exact if_pos rfl
     . have i:u∈σ.O\/σ.K u≠none:=(by simpa [c8,e]using c);rcases h.path u i with⟨l,m,n⟩|⟨b,l,m,n,B,F,G⟩
       . grind[lq,cV]
       . refine .inr ⟨b,l,m,n,B,?_,?_⟩
         . simp_all[lq,if_neg]
         simp_all[cV,if_neg]
theorem Sv.close(h:Sv A N s al pi σ){v:Nat}{k:Int}(i:σ.K v=some k):Sv A N s al pi (dC σ v):=by
 obtain⟨x,j,y,z⟩:=h.op v k i;have l:(σ.O++[v]).length*du=σ.O.length*du+du:=by grind
 refine⟨?_,fun u f=>?_,fun u m f=>?_,fun u=>⟨?_,?_⟩,fun u f=>?_,fun u f=>?_⟩
 . show(σ.O++[v]).Nodup;rw [List.nodup_append];exact⟨h.nd,by simp,fun a B b C e=>j (by grind)⟩
 . rcases List.mem_append.1 f with f|f
   . exact h.lt u f
   grind
 . simp only [dC,c8]at f⊢
   split at f
   . cases f
   . rename_i e;obtain⟨a,b,c,d⟩:=h.op u m f;grind
 . show σ.L u<=(σ.O++[v]).length*du;rw [l];have:=(h.bd u).1;omega
 . show(σ.P u).length<=(σ.O++[v]).length;have:=(h.bd u).2;simp;omega
 . rcases List.mem_append.1 f with f|f
   . exact h.pc u f
   grind
 . have g:u∈σ.O\/σ.K u≠none:=by
    by_cases e:u=v
    . grind
    . simpa [dC,c8,e]using f
   rcases h.path u g with n|⟨b,o,p,q,r,t,w⟩
   . exact .inl n
   . exact .inr ⟨b,o,p,q,Xd _ r,t,w⟩
def Room(σ:SS)(v:Nat):Prop:=v∈σ.O/\σ.L v+du<=σ.O.length*du/\(σ.P v).length+1<=σ.O.length
theorem Room.keeps{d:SS}{v:Nat}(r:Room σ v)(k:me σ d):Room d v:=by obtain⟨a,b,c⟩:=r;exact⟨by rw [k.O];exact a,by rw [k.O,k.L v a];exact b,by rw [k.O,k.P v a];exact c⟩
theorem Sv.room(h:Sv A N s al pi σ)(v:Nat):Room (dC σ v) v:=by
 have:=h.bd v;refine⟨Xe _ (by simp),?_,?_⟩
 . show σ.L v+du<=(σ.O++[v]).length*du;rw [XF,List.length_singleton,Nat.succ_mul];omega
 . show(σ.P v).length+1<=(σ.O++[v]).length;simp;omega
theorem Sv.scan1(h:Sv A N s al pi σ)(d: ∀a∈A,a.t<N/\a.w<=du){v a:Nat}(r:Room σ v)(e:a<A.length)(f:(A.getD a default).s=v):Sv A N s al pi (scan1 A al pi v σ a)/\me σ (scan1 A al pi v σ a):=by
 unfold Ab.scan1
 split
 . rename_i b;obtain⟨g,l,i⟩:=r;have j:=d (A.getD a default) (by grind);subst f;obtain⟨k,c⟩:=(h.evS ⟨1,a,0⟩).reach (p:=a::σ.P (A.getD a default).s) (lab:=σ.L (A.getD a default).s+(A.getD a default).w) e b rfl j.1 g rfl rfl (by show _<=σ.O.length*du;omega) (by show(σ.P _).length+1<=σ.O.length;exact i);exact⟨k,⟨c.O,c.L,c.P⟩⟩
 . exact⟨h,.refl⟩
theorem Sv.scanL(d: ∀a∈A,a.t<N/\a.w<=du){v:Nat}: ∀(l:List Nat) {σ:SS},Sv A N s al pi σ->Room σ v->(∀a∈l,a<A.length/\(A.getD a default).s=v)->Sv A N s al pi (l.foldl (Ab.scan1 A al pi v) σ)/\me σ (l.foldl (Ab.scan1 A al pi v) σ)
 | [],_,h,_,_=>⟨h,.refl⟩| a::l,σ,h,r,c=>by obtain⟨f,e⟩:=h.scan1 d r (c a (by simp)).1 (c a (by simp)).2;obtain⟨g,i⟩:=Sv.scanL d l f (r.keeps e) (fun b j=>c b (by simp [j]));exact⟨g,e.trans i⟩
theorem Sv.next(h:Sv A N s al pi σ)(b: ∀a∈A,a.t<N/\a.w<=du){v:Nat}{k:Int}(c:σ.K v=some k):Sv A N s al pi (qq A al pi v (dC σ v))/\me (dC σ v) (qq A al pi v (dC σ v)):=
 Sv.scanL b _ (h.close c) (h.room v) (fun _ d=>gC.1 d)

def InH(A:List Arc)(al:Nat->Bool)(pi:Nat->Int)(a:Nat):Prop:=al a=true/\pi (A.getD a default).s<(FAR:Int)/\pi (A.getD a default).t<(FAR:Int)
instance (a:Nat):Decidable (InH A al pi a):=by unfold InH;infer_instance
def gY(A:List Arc)(al:Nat->Bool)(pi:Nat->Int):List Arc:=((XB A.length).filter fun a=>decide (InH A al pi a)).map fun a=>A.getD a default
theorem jq{a:Arc}:a∈gY A al pi↔ ∃i,i<A.length/\InH A al pi i/\A.getD i default=a:=by unfold gY;grind
def Feas(A:List Arc)(al:Nat->Bool)(pi:Nat->Int):Prop:= ∀i,i<A.length->InH A al pi i->pi (A.getD i default).s<=(A.getD i default).w+pi (A.getD i default).t
theorem Sv.wk(h:Sv A N s al pi σ): ∀(n:Nat) {v:Nat},(σ.P v).length<=n->(v∈σ.O\/σ.K v≠none)->Wk (gY A al pi) s v (σ.L v):=by
 have p: ∀v,(v∈σ.O\/σ.K v≠none)->pi v<(FAR:Int):=fun v b=>b.elim (h.pc v) (fun b=>by
  cases f:σ.K v with
  |none=>grind|some k=>exact(h.op v k f).2.2.1)
 intro n
 induction n with
 | zero=>
   intro v c b;rcases h.path v b with⟨rfl,_,e⟩|⟨a,_,_,_,_,e,_⟩
   . rw [e];exact .nil
   grind
 | succ n g=>
   intro v c b;rcases h.path v b with⟨rfl,_,e⟩|⟨a,i,j,l,d,m,o⟩
   . grind
   . rw [m]at c;rw [o];exact Wk.snoc' (g (v:=(A.getD a default).s) (by simpa using c) (.inl d)) (jq.2 ⟨a,i,⟨j,h.pc _ d,by grind⟩,rfl⟩) rfl l rfl
structure Fe(A:List Arc)(s:Nat)(al:Nat->Bool)(pi:Nat->Int)(σ:SS)(ex:Nat->Prop):Prop where
 opt: ∀v∈σ.O,∀w,Wk (gY A al pi) s v w->σ.L v<=w
 fr: ∀a,a<A.length->InH A al pi a->(A.getD a default).s∈σ.O-> ¬ex a->(A.getD a default).t∈σ.O\/(σ.K (A.getD a default).t≠none/\σ.L (A.getD a default).t<=σ.L (A.getD a default).s+(A.getD a default).w)
 st:s∈σ.O\/(σ.K s≠none/\σ.L s=0)
theorem tN(b:pi s<(FAR:Int)):Fe A s al pi (dg pi s) (fun _=>False):=by
 have e:dg pi s=⟨c8 (fun _=>none) s (some ((0:Nat)+pi s)),cV (fun _=>0) s 0,lq (fun _=>[]) s [],[],[]⟩:=by simp_all[dg,dz,if_neg]
 rw [e];exact⟨fun v h=>(by cases h),fun a _ _ h=>(by cases h),.inr ⟨by simp [c8],by simp [cV]⟩⟩
theorem Fe.front(f:Fe A s al pi σ (fun _=>False))(h:Sv A N s al pi σ)(j:Feas A al pi){x w:Nat}(k:Wk (gY A al pi) s x w):x∈σ.O\/ ∃y,σ.K y≠none/\(σ.L y:Int)+pi y<=w+pi x:=by
 induction k with
 |nil=>exact f.st.imp (fun h=>h) (fun⟨a,b⟩=>⟨s,a,by rw [b];omega⟩)
 | @snoc w a l m c=>
   obtain⟨i,e,g,rfl⟩:=jq.1 l;have o:=j i e g;rcases c with c|⟨y,d,n⟩
   . rcases f.fr i e g c (fun h=>h)with d|⟨d,n⟩
     . exact .inl d
     . have:=f.opt _ c _ m;grind
   grind
theorem Fe.popped(f:Fe A s al pi σ (fun _=>False))(h:Sv A N s al pi σ)(l:Feas A al pi){v:Nat}{k:Int}(e:Pops σ.K v k):
 (∀w,Wk (gY A al pi) s v w->σ.L v<=w)/\ ∀x w,x∉σ.O->Wk (gY A al pi) s x w->(σ.L v:Int)+pi v<=w+pi x:=by
 have d: ∀x w,x∉σ.O->Wk (gY A al pi) s x w->(σ.L v:Int)+pi v<=w+pi x:=fun x w n g=>by
  rcases f.front h l g with m|⟨y,m,o⟩
  . grind
  . cases i:σ.K y with
    |none=>grind| some j=>have a:=(h.op y j i).2.2.2;have b:=(h.op v k e.1).2.2.2;have c:=e.2 y j i;omega
 refine⟨fun w g=>?_,d⟩;have:=d v w (h.op v k e.1).2.1 g;omega
theorem Fe.close(f:Fe A s al pi σ (fun _=>False))(h:Sv A N s al pi σ)(g:Feas A al pi){v:Nat}{k:Int}(i:Pops σ.K v k):Fe A s al pi (dC σ v) (fun a=>(A.getD a default).s=v):=by
 have j:=(f.popped h g i).1;refine⟨fun u b=>?_,fun a l m d o=>?_,?_⟩
 . rcases List.mem_append.1 b with b|b
   . exact f.opt u b
   . simp at b;subst b;exact j
 . rcases List.mem_append.1 d with d|d
   . rcases f.fr a l m d (fun h=>h)with c|⟨c,n⟩
     . exact .inl (Xd _ c)
     . by_cases e:(A.getD a default).t=v
       . exact .inl (Xe _ (List.mem_singleton.2 e))
       simp_all[dC,c8,if_neg]
   grind
 . rcases f.st with c|⟨c,n⟩
   . exact .inl (Xd _ c)
   . by_cases e:s=v
     . exact .inl (Xe _ (List.mem_singleton.2 e))
     simp_all[dC,c8,if_neg]
theorem Fe.reach{o ex':Nat->Prop}(f:Fe A s al pi σ o){a v lab:Nat}{p:List Nat}(r:(A.getD a default).t=v)(z:lab=σ.L (A.getD a default).s+(A.getD a default).w)(m: ∀b,¬ex' b-> ¬o b\/(b=a)):Fe A s al pi (dz pi σ v lab p) ex':=by
 unfold dz
 split
 . rename_i g;refine⟨f.opt,fun b l i j d=>?_,f.st⟩;rcases m b d with c|rfl
   . exact f.fr b l i j c
   . rw [r];rcases g with g|g|⟨c,h⟩
     . exact .inl g
     . have:=i.2.2;grind
     grind
 . rename_i g;simp only [not_or]at g;obtain⟨t,B,w⟩:=g;have x:=fun c h=>w ⟨c,h⟩;have q: ∀u∈σ.O,u≠v:=fun u n e=>t (by grind);refine⟨fun u n=>?_,fun b l i j d=>?_,?_⟩
   . simp only [cV,if_neg (q u n)];exact f.opt u n
   . simp only [cV,c8,if_neg (q _ j)];by_cases e:(A.getD b default).t=v
     . right;simp only [e,if_true];refine⟨by nofun,?_⟩;rcases m b d with c|rfl
       . rcases f.fr b l i j c with h|⟨h,y⟩
         . grind
         . rw [e]at h y;have: ¬σ.L v<=lab:=x (by cases C:σ.K v with|none=>grind|some k=>rfl);omega
       . omega
     . simp only [if_neg e];rcases m b d with c|rfl
       . exact f.fr b l i j c
       omega
   . rcases f.st with c|⟨c,h⟩
     . exact .inl c
     . by_cases e:s=v
       . simp_all
       simp_all[c8,if_neg,cV]
theorem Fe.exm{b ex':Nat->Prop}(f:Fe A s al pi σ b)(h: ∀a,a<A.length->b a->ex' a):Fe A s al pi σ ex':=
 ⟨f.opt,fun a c d e g=>f.fr a c d e (fun i=>g (h a c i)),f.st⟩
theorem Fe.scan1{e ex':Nat->Prop}(f:Fe A s al pi σ e){a v:Nat}(j:(A.getD a default).s=v)(g: ∀b,¬ex' b-> ¬e b\/(b=a)):Fe A s al pi (scan1 A al pi v σ a) ex':=by
 unfold Ab.scan1
 split
 . subst j;exact Fe.reach (σ:=evS σ ⟨1,a,0⟩) ⟨f.opt,f.fr,f.st⟩ rfl rfl g
 . rename_i c;refine⟨f.opt,fun b k i l d=>?_,f.st⟩;rcases g b d with h|rfl
   . exact f.fr b k i l h
   . exact absurd i.1 c
theorem Fe.scanL{v:Nat}: ∀(l:List Nat) {σ:SS},Fe A s al pi σ (· ∈l)->(∀a∈l,(A.getD a default).s=v)->Fe A s al pi (l.foldl (Ab.scan1 A al pi v) σ) (fun _=>False)
 | [],_,f,_=>f.exm (fun a _ h=>by cases h)
 |a::l,σ,f,c=>Fe.scanL l (f.scan1 (a:=a) (c a (by simp)) (fun b d=>by grind)) (fun b d=>c b (by simp [d]))
theorem Fe.next(f:Fe A s al pi σ (fun _=>False))(h:Sv A N s al pi σ)(c:Feas A al pi){v:Nat}{k:Int}(d:Pops σ.K v k):Fe A s al pi (qq A al pi v (dC σ v)) (fun _=>False):=
 Fe.scanL _ ((f.close h c d).exm fun a b e=>gC.2 ⟨b,e⟩) (fun a b=>(gC.1 b).2)
theorem AH{to:Nat}{r:Fd}(j: ∀a∈A,a.t<N/\a.w<=du)(l:N<=12)(g:Feas A al pi)(m:Ends A al pi to σ r):Sv A N s al pi σ->Fe A s al pi σ (fun _=>False)->to∉σ.O->IsD (gY A al pi) s to r.dist:=by
 induction m with
 | none q=>
   intro h f d;refine .inr ⟨rfl,fun w n=>?_⟩;rcases f.front h g n with b|⟨y,b,_⟩
   . exact d b
   grind
 | @hit σ k c=>intro h f d;have b:=h.wk _ (XA _) (v:=to) (.inr (by rw [c.1];nofun));have i:=(h.bd to).1;have t:=X2 du (Xj h.len l);have:=dR;have:=nH;exact .inl ⟨by grind,b,(f.popped h g c).1⟩| @step σ v k r c o _ p=>
   intro h f d;obtain⟨b,i⟩:=h.next j c.1
   refine p b (f.next h g c) ?_;rw [i.O];intro e;rcases List.mem_append.1 e with e|e
   . exact d e
   grind
theorem Wk.mono{B C:List Arc}(b: ∀a∈B,a∈C){v w:Nat}(h:Wk B s v w):Wk C s v w:=by
 induction h with
 |nil=>exact .nil|snoc c _ d=>exact .snoc (b _ c) d
theorem IsD.congr{B C:List Arc}(d: ∀a,a∈B↔a∈C){v x:Nat}(h:IsD B s v x):IsD C s v x:=by
 rcases h with⟨a,b,c⟩|⟨a,b⟩
 . exact .inl ⟨a,b.mono fun a=>(d a).1,fun w e=>c w (e.mono fun a=>(d a).2)⟩
 . exact .inr ⟨a,fun w e=>b w (e.mono fun a=>(d a).2)⟩
end
end Go.Ab

end
section
namespace Go.Ab
def mi(E:Env)(g:FuncId)(a post:List Value)(h0:Hp)(D:Nat->Prop)(xs:List (List Value)):Prop:=
 ∀b J Z,(∀v h,¬Z (.pan v) h)->Yld E b J Z xs-> ∀h F,ItS h0 D h F->J 0 h F->fZ E g (a++[.func (.yield b) #[] #[]]++post) none h (YQ J Z xs.length)
theorem iter_useN{E:Env}{g:FuncId}{a post:List Value}{h0:Hp}{D:Nat->Prop}{xs:List (List Value)}(H:mi E g a post h0 D xs){c:Nat}{J:Nat->Hp->List Nat->Prop}{Z:Out->Hp->Prop}(i: ∀v h,¬Z (.pan v) h)(Y:Yld E c J Z xs)
 {h:Hp} {F:List Nat} (d:Mo (fun b=> ¬D b) h0 h) (j: ∀b∈F,b<h0.n-> ¬D b) (f:J 0 h F):fZ E g (a++[.func (.yield c) #[] #[]]++post) none h (YQ J Z xs.length):=
 H c J Z i Y h F ⟨d.ok,d.n,fun b e k=>d.get b e (fun l=>l k),fun b e h=>j b e h.1 h.2,(Y.lt 0 h F f).2⟩ f
theorem dn_yield{E:Env}{cx:Cx}{Q:fC}{a:List Oper}{q:Nat}{ps:List (Nat×Nat)}{o:Oper}{os:List Oper}{i:Nat}{k:List Fr}{l:Loc}{e:Hp->List (Nat×Tch)}{h0 h:Hp}{D:Nat->Prop}{f j:Nat}{J:Nat->Hp->List Nat->Prop}{Z:Out->Hp->Prop}{xs:List (List Value)}{x:List Value}{F:List Nat}
 (u: ∀v h,¬Z (.pan v) h) (Y:Yld E f J Z xs) (s:ItS h0 D h F) (g:J j h F) (m:xs[j]? =some x)
 (n: ∀d F',J (j+1) d F'->ItS h0 D d F'->Mo (· ∈F) h d->(∀b∈F',b∈F\/h.n<=b)->Run E (lim E) cx Q (.opsD a q ps os (i+1) (e d)::k) .normal (l.put o.dst (.bool true)) d)
 (k2: ∀d,Z (.ret (.bool false)) d->d.t.Sized d.n->Run E (lim E) cx Q (.opsD a q ps os (i+1) (e d)::k) .normal (l.put o.dst (.bool false)) d):DN E cx Q a q ps o os i k l e (some (.yield f x,h)):=by
 obtain⟨p,d,r,t⟩:=Y.round j x h F m g;refine⟨p,d,r,?_⟩;rcases t with⟨rfl,F',a,b,c⟩|⟨rfl,a,b⟩|⟨⟨v,rfl⟩,a⟩
 . exact n d F' a (s.mo b c (Y.lt _ _ _ a).2) b c
 . exact k2 d a b
 grind
def eP(h a:Hp):Prop:= ∀b,b<h.n->a.get b=h.get b
theorem eP.load{h a:Hp}(c:h.t.Sized h.n)(g:eP h a){b o n:Nat}{l:List Value}(e:h.load b o n=some l):a.load b o n=some l:=by have:=g b (bC c e);grind[Hp.load]
theorem eP.row{h a:Hp}(c:h.t.Sized h.n)(g:eP h a){b:Nat}{l:List Value}{md:Nat}(r:Row h b l md):Row a b l md:=Row.of_get (g b (r.lt c)) r
theorem av.keep{a:Type}{h d:Hp}{k:Nat}{enc:a->List Value}{v:Value}{xs:List a}(e:h.t.Sized h.n)(g:eP h d)(s:av h k enc v xs):av d k enc v xs:=by
 rcases s with s|⟨b,o,s,c,f,i,j⟩
 . exact .inl s
 . exact .inr ⟨b,o,s,c,f,i,g.load e j⟩
theorem gP.keep{h d:Hp}{v:Value}{m N:Nat}{R:Nat->List Nat}(e:h.t.Sized h.n)(g:eP h d)(r:gP h m v N R):gP d m v N R:=by
 obtain⟨f,j,k,l,n,o,p⟩:=r;exact⟨f,j,k,l,g.row e n,o,fun i q=>by
  obtain⟨w,a,b,c⟩:=p i q;exact⟨w,a,b.keep e g,c⟩⟩
theorem aX.keep{h d:Hp}{m:Nat}{p:Value}{e:Gra}(a:h.t.Sized h.n)(g:eP h d)(n:aX h m p e):aX d m p e:=by obtain⟨b,f,i,j,k,l,o,q,c,r,s,t,u⟩:=n.ex;exact⟨b,f,i,j,k,l,o,g.row a q,⟨c.X.keep a g,c.Y.keep a g,c.A.keep a g⟩,r.keep a g,s.keep a g,t,u⟩
theorem Gr.keep{h a:Hp}(g:Gr h a):eP h a:=g.get
theorem eP.trans{a b c:Hp}(x:eP a b)(n:a.n<=b.n)(y:eP b c):eP a c:=fun i d=>(y i (XG d n)).trans (x i d)
theorem ItS.keep{hq h0 h:Hp}{D:Nat->Prop}{F:List Nat}(s:ItS h0 D h F)(g:eP hq h0)(n:hq.n<=h0.n)(d: ∀c,c<hq.n->D c):eP hq h:=fun b a=>(s.data b (XG a n) (d b a)).trans (g b a)
theorem wQ{n:Int}(a:0<=n)(b:n<18446744073709551616):am .u64 n=n:=by obtain⟨m,rfl⟩:=Int.eq_ofNat_of_zero_le a;grind[am,hf,sgn,pw,Nat.blt,Nat.blt_eq]
theorem b_andU{E:Env}{t:TypeId}{x y:Operand}{N:Nat}(h:N<4294967296):bF E .and t x y (.int .u64 (N:Int)) (.int .u64 4294967295)=some (.int .u64 (N:Int)):=by
 have a:Nat.blt N 18446744073709551616=true:=by rw [Nat.blt_eq];omega
 have b:Nat.land N 4294967295=N:=by have:=Nat.and_two_pow_sub_one_eq_mod N 32;simp_all
 have c:=wQ (n:=(N:Int)) (by omega) (by omega);have e4:iC .and .u64 (.ofNat N) (.ofNat 4294967295)=some (am .u64 (.ofNat (Nat.land N 4294967295))):=by simp only [iC,pw];rw [a];rfl
 show(iC .and .u64 (.ofNat N) (.ofNat 4294967295)).map _=_;grind
theorem b_shrU{E:Env}{t:TypeId}{x y:Operand}{kd:IntKind}{N:Nat}(h:N<4294967296):bF E .shr t x y (.int .u64 (N:Int)) (.int kd 32)=some (.int .u64 0):=by
 have e:N/Nat.pow 2 (bif XN 32 (bitsOf .u64)then 32 else bitsOf .u64)=0:=by show N/4294967296=0;omega
 show(rZ .shr .u64 (.ofNat N) (.ofNat 32)).map _=_;show some (Value.int .u64 (.ofNat (N/Nat.pow 2 (bif XN 32 (bitsOf .u64)then 32 else bitsOf .u64))))=_;rw [e];rfl
end Go.Ab

end
section
namespace Go.Ab
open Go.Proofs
set_option maxRecDepth 10000
theorem iU{h0:Hp}(j:h0.t.Sized h0.n){f:Type}{enc:f->List Value}(k: ∀x,(enc x).length=1){v:Value}{xs:List f}(l:av h0 1 enc v xs)(u:xs.length<1000000):Ret zM 84 [v] h0 fun r a=>Gr h0 a/\av a 1 enc r xs/\ ∀c,aq r c->h0.n<=c:=by
 have S:=Si j;rcases l with⟨rfl,rfl⟩|⟨b,o,s,c,rfl,m,p⟩
 . refine aa (n:=8) (rs:=[.tmp 2]) rfl Tryz.e84 rfl rfl rfl (lbt rfl) ?_;simp only [BZ,ab,seval];exact⟨S.gr,.inl ⟨rfl,rfl⟩,fun c d=>d.elim⟩
 . refine aa (n:=8) (rs:=[.tmp 2]) rfl Tryz.e84 rfl rfl rfl (lbt rfl) ?_;simp only [BZ,seval];refine ac (bV (by exact Tryz.t41.1) (by exact XJ) (by decide) (by rfl)) S ?_;clear S;intro h w S i;simp only [LC,a9,bQ,ae,Xv,Xl,Xn,XC,seval]at S;simp only [BZ,seval];refine dP (S.cloneSl (enc:=enc) (xs:=[]) Tryz.t41.1 XJ (by decide) Tryz.t41.2.2.2.2.2 (.inr ⟨b,o,s,c,rfl,m,S.old p (fun h=>h)⟩) k (by decide) (by simp only [List.length_nil,Xl];omega) (S.row m0)) ?_;rintro a v ⟨q,g,t,d⟩;simp only [BZ,ab,seval];refine⟨q.gr,by simpa using t,fun c h=>(d c h).elim (fun e=>by omega) (fun e=>Xj S.fr.n e)⟩
theorem bS{h0:Hp}(d:h0.t.Sized h0.n){p:Value}{a:Gra}{e:Nat}(c:aX h0 e p a):aN zM 11 [p] h0 (.int .i64 a.nodes):=by have S:=Si d;obtain⟨b,g,h,i,j,k,rfl,r,_⟩:=c.ex;have f:=r.load1 (o:=0) rfl;refine aa (n:=10) (rs:=[.tmp 2]) rfl Tryz.e11 rfl rfl rfl (lbt rfl) ?_;simp only [BZ,ab,f,seval];exact S.gr
theorem oneArc_ok{h0:Hp}(j:h0.t.Sized h0.n){v:Value}{A:List Arc}(f:av h0 3 dw v A){i:Nat}(k:i<A.length):Ret zM 224 [v,.int .i64 i] h0 fun r l=>Gr h0 l/\r=.tuple #[.agg ⟨dw A[i]⟩,.bool true]:=by
 have S:=Si j;have m: ¬((i:Int)<0):=by omega
 have p: ¬((A.length:Int)<=(i:Int)):=by omega
 refine aa (n:=19) (rs:=[.cell 4 139,.tmp 5]) rfl Tryz.e224 rfl rfl rfl (lbt rfl) ?_;simp only [BZ];refine ac ay S ?_;clear S;intro h q S g;obtain⟨c,o,a,d⟩:=(f.gr S.gr).ix (kd:=.i64) iR k;simp only [BZ,f.lenq,m,p,a,d,seval];refine aC (S.store (i:=0) rfl ?_ ?_ rfl rfl ?_ ono) ?_
 . exact(by exact Tryz.t139.2.1)
 . exact(by intro x e;cases e)
 . exact lbt rfl
 clear S;rintro h ⟨S,s⟩;clear s;simp only [LC,ae,lay,Xp,Xq,seval]at S;simp only [BZ,ab,dw];refine(bZ (by decide) (by simp only [aD,ah,seval];exact bN Tryz.t139.1 Tryz.t139.2.1 (S.lds (b:=q) (o:=0) (n:=3) m0 (lbt rfl)))).2 ?_;refine(fQ (by decide)).2 (cK.2 ?_);exact⟨S.gr,rfl⟩
theorem yp{h0:Hp}(d:h0.t.Sized h0.n){m:Nat}{v:Value}{N:Nat}{R:Nat->List Nat}(f:gP h0 m v N R){i:Nat}(a:i<N):Ret zM 207 [v,.int .i64 i] h0 fun r b=>Gr h0 b/\ ∃w,r=.tuple #[w,.bool true]/\av b 1 cq w (R i):=by
 have S:=Si d;obtain⟨p,q,rfl,_,g,c,h⟩:=f;obtain⟨w,e,j,_⟩:=h i a;have k:=g.load1 e;have l: ¬((i:Int)<0):=by omega
 have o: ¬((N:Int)<=(i:Int)):=by omega
 refine aa (n:=19) (rs:=[.tmp 4,.tmp 5]) rfl Tryz.e207 rfl rfl rfl (lbt rfl) ?_;simp only [BZ,ab,l,o,a,k,seval];exact⟨S.gr,_,rfl,j⟩
theorem lU{h0:Hp}(f:h0.t.Sized h0.n){p:Value}{a:Gra}{j:Nat}(c:aX h0 j p a){i:Nat}(k:i<a.arcs.length):Ret zM 167 [p,.int .i64 i] h0 fun r l=>Gr h0 l/\r=.tuple #[.agg ⟨dw a.arcs[i]⟩,.bool true]:=by
 have S:=Si f;obtain⟨b,u,w,y,z,A,rfl,r,m,_⟩:=c.ex;have q:=r.load1 (o:=3) rfl;refine aa (n:=18) (rs:=[.cell 4 139,.tmp 5]) rfl Tryz.e167 rfl rfl rfl (lbt rfl) ?_;simp only [BZ];refine ac ay S ?_;clear S;intro h s S d;simp only [BZ,S.old q (fun h=>h),seval];refine step_ret (oneArc_ok S.ok (m.A.gr S.gr) k) ?_;rintro v h ⟨g,rfl⟩;replace S:=S.call g;clear g;simp only [BZ,dw,seval];refine aC (S.store (i:=0) rfl ?_ ?_ rfl rfl ?_ ono) ?_
 . exact(by exact Tryz.t139.2.1)
 . exact(by intro x e;cases e)
 . exact lbt rfl
 clear S;rintro h ⟨S,t⟩;clear t;simp only [LC,ae,lay,Xp,Xq,seval]at S;simp only [BZ,ab,seval];refine(bZ (by decide) (by simp only [aD,ah,seval];exact bN Tryz.t139.1 Tryz.t139.2.1 (S.lds (b:=s) (o:=0) (n:=3) m0 (lbt rfl)))).2 ?_;refine(fQ (by decide)).2 (cK.2 ?_);exact⟨S.gr,rfl⟩
theorem yi{h0:Hp}(f:h0.t.Sized h0.n){p:Value}{a:Gra}{j:Nat}(c:aX h0 j p a)(k:a.arcs.length<1000){i:Nat}(l:i<a.nodes):Ret zM 130 [p,.int .i64 i] h0 fun r e=>Gr h0 e/\av e 1 cq r (outs a.arcs Arc.s a.arcs.length i)/\ ∀c,aq r c->h0.n<=c:=by have S:=Si f;obtain⟨b,u,x,y,z,A,rfl,r,B,m,C,_⟩:=c.ex;have q:=r.load1 (o:=4) rfl;refine aa (n:=20) (rs:=[.tmp 4]) rfl Tryz.e130 rfl rfl rfl (lbt rfl) ?_;simp only [BZ,q,seval];refine step_ret (yp S.ok m l) ?_;rintro v h ⟨g,w,rfl,d⟩;replace S:=S.call g;clear g;simp only [BZ,seval];have s:=S.fr.n;have t:=lE a.arcs Arc.s a.arcs.length i;refine step_ret (iU S.ok dV d (by omega)) ?_;intro v h ⟨g,d,hc⟩;replace S:=S.call g;clear g;simp only [BZ,ab,seval];exact⟨S.gr,d,fun c h=>Xj s (hc c h)⟩
theorem Ay{h0:Hp}(f:h0.t.Sized h0.n){p:Value}{a:Gra}{j:Nat}(c:aX h0 j p a)(k:a.arcs.length<1000){i:Nat}(l:i<a.nodes):Ret zM 132 [p,.int .i64 i] h0 fun r e=>Gr h0 e/\av e 1 cq r (outs a.arcs Arc.t a.arcs.length i)/\ ∀c,aq r c->h0.n<=c:=by have S:=Si f;obtain⟨b,u,x,y,z,A,rfl,r,B,C,m,_⟩:=c.ex;have q:=r.load1 (o:=5) rfl;refine aa (n:=20) (rs:=[.tmp 4]) rfl Tryz.e132 rfl rfl rfl (lbt rfl) ?_;simp only [BZ,q,seval];refine step_ret (yp S.ok m l) ?_;rintro v h ⟨g,w,rfl,d⟩;replace S:=S.call g;clear g;simp only [BZ,seval];have s:=S.fr.n;have t:=lE a.arcs Arc.t a.arcs.length i;refine step_ret (iU S.ok dV d (by omega)) ?_;intro v h ⟨g,d,hc⟩;replace S:=S.call g;clear g;simp only [BZ,ab,seval];exact⟨S.gr,d,fun c h=>Xj s (hc c h)⟩
theorem mul64_ok{h0:Hp}(b:h0.t.Sized h0.n){N:Nat}(i:N<1000):aN zM 273 [.int .u64 1,.int .u64 N] h0 (.tuple #[.int .u64 0,.int .u64 N]):=by have S:=Si b;have c: ∀{t x y},bF zM .and t x y (.int .u64 1) (.int .u64 4294967295)=some (.int .u64 1):=b_andU (N:=1) (by decide);have d: ∀{t x y},bF zM .and t x y (.int .u64 0) (.int .u64 4294967295)=some (.int .u64 0):=b_andU (N:=0) (by decide);have e: ∀{t x y a},bF zM .shr t x y (.int .u64 1) (.int a 32)=some (.int .u64 0):=b_shrU (N:=1) (by decide);have f: ∀{t x y a},bF zM .shr t x y (.int .u64 0) (.int a 32)=some (.int .u64 0):=b_shrU (N:=0) (by decide);have g:am .u64 (N:Int)=(N:Int):=wQ (by omega) (by omega);have h:am .u64 0=0:=rfl;refine aa (n:=51) (rs:=[.tmp 4,.tmp 5]) rfl Tryz.e273 rfl rfl rfl (lbt rfl) ?_;simp only [BZ,ab,c,d,e,f,b_andU (N:=N) (by omega),b_shrU (N:=N) (by omega),Int.one_mul,Int.zero_mul,Int.mul_zero,Int.add_zero,g,h,seval];exact S.gr
theorem mul_ok{h0:Hp}(a:h0.t.Sized h0.n){N:Nat}(b:N<1000):aN zM 248 [.int .u64 1,.int .u64 N] h0 (.tuple #[.int .u64 0,.int .u64 N]):=by have S:=Si a;refine aa (n:=30) (rs:=[.tmp 4,.tmp 5]) rfl Tryz.e248 rfl rfl rfl (lbt rfl) ?_;simp only [BZ,seval];refine ag (mul64_ok S.ok b) ?_;intro h g;replace S:=S.call g;clear g;simp only [BZ,ab,seval];exact S.gr
end Go.Ab
end
section
namespace Go.Ab
theorem zF{E:Env}{t e:TypeId}{b n N:Nat}{kd:IntKind}(c:E.und t=some (.slice e))(d:E.sz e=some 1)(f:n<N):fK E t (.slice (some ⟨b,0,none⟩) N N) (some (.int kd (n:Int))) none none=some (.slice (some ⟨b,n,none⟩) (N-n) (N-n)):=by
 have a: ∀n:Nat,iA (n:Int)=some n:=fun n=>rfl;have g:XW N n=false:=by
  cases h:XW N n with
  |false=>rfl|true=>have:=Nat.eq_of_beq_eq_true h;omega
 simp only [fK,c,fG,fF,a,Xi (Yc f),cond_true,d,Xk,cond_false,g,gw,Xn,Xl]
theorem yJ{E:Env}{t e:TypeId}{b n N k:Nat}{kd:IntKind}(c:E.und t=some (.slice e))(d:E.sz e=some k)(f:n<=N):fK E t (.slice (some ⟨b,0,none⟩) N N) none (some (.int kd (n:Int))) none=some (.slice (some ⟨b,0,none⟩) n N):=by have a: ∀n:Nat,iA (n:Int)=some n:=fun n=>rfl;simp only [fK,c,fG,fF,a,Xi f,cond_true,d,Xk,cond_false,gw,Xv,Nat.add_zero,Nat.sub_zero];cases XW N 0<;>rfl
section
variable{M:Nat->Prop}{h0 h:Hp}{L:List (Nat×Ob)}{G:List GL}{E:Env}{t e:TypeId}
theorem St.copyO(S:St M h0 h L G){i b o len cap b2 o2 m k:Nat}{n c:Option Nat}{cs l:List Value}(f:L[i]? =some (b,.row cs 1))(p:E.und t=some (.slice e))(q:E.sz e=some 1)(u:0<dA m len)(g:h.load b2 o2 (dA m len*1)=some l)(d:o+l.length<=cs.length)(hf:l.all lh=true){ts:List TypeId}:
 ∃j w,copyV E h (t::ts) (.slice (some ⟨b,o,n⟩) len cap) (.slice (some ⟨b2,o2,c⟩) m k)=some (j,w)/\w=.int .i64 (dA m len:Nat)/\St M h0 j (L.set i (b,.row (lay cs o l) 1)) G:=by
 obtain⟨y,r,s⟩:=(S.row (Xu f)).store S.ok ono (o:=o) (vs:=l) d hf;have a:=load_len g;refine⟨h.put b y,_,?_,rfl,S.put f s⟩;simp only [copyV,p,q,g];cases l with
 |nil=>simp at a;omega|cons x v=>simp only [r];rfl
end
theorem jN{a b:Nat}(h:a<=b):dA a b=a:=by unfold dA;rw [Xi h];rfl
theorem tK{a b:Nat}(h:b<=a):dA a b=b:=by
 unfold dA;cases c:XN a b with
 |false=>rfl|true=>have:=lbt c;show a=b;omega
theorem ti{X Z:Value}{n c k:Nat}(e:c<=k):lay (zO n X++zO k Z) n (zO c X)=zO (n+c) X++zO (k-c) Z:=by
 refine Xt fun j=>?_;rw [jO (by simp;omega),XK,X3,X3,XK,XK,Xr,Xr,Xr,Xr,Xr];by_cases a:j<n
 . rw [if_neg (by omega),if_pos a,if_pos a,if_pos (by omega),if_pos (by omega)]
 . by_cases b:j<n+c
   . rw [if_pos (by omega),if_pos (by omega),if_pos b,if_pos b]
   . rw [if_neg (by omega),if_neg a,if_neg b];by_cases d:j-n<k
     . rw [if_pos d,if_pos (by omega)]
     . rw [if_neg d,if_neg (by omega)]
theorem mP(z:Value): ∀n,a9 [z] n=zO n z
 |0=>rfl|n+1=>by simp [a9,mP z n,List.replicate_succ]
def ClF(O:List Nat)(f:Int->Option Value):Prop:= ∀u:Nat,f (u:Int)=if u∈O then some (.int .i64 1)else none
end Go.Ab

end
section
namespace Go.Ab
section
variable{M:Nat->Prop}{h0 h h':Hp}{L L':List (Nat×Ob)}{G G':List GL}{Fh:List Nat}
theorem St.baseF(S:St M h0 h L G)(Fh:List Nat):St (fun c=>c∈keys L G\/c∈Fh) h h L G:=
 ⟨Mo.refl S.ok,fun p a=>⟨.inr (.inl (jz a)),(S.own p a).2⟩,fun p a=>⟨(S.gown p a).1,fun b d=>.inr (.inl (hI a d))⟩,S.apart⟩
theorem St.rebaseF(S:St M h0 h L G)(e: ∀c∈Fh,h0.n<=c\/M c)(T:St (fun c=>c∈keys L G\/c∈Fh) h h' L' G'):St M h0 h' L' G':=by have f: ∀b,h.n<=b\/(b∈keys L G\/b∈Fh)->h0.n<=b\/M b:=fun b a=>a.elim (fun a=>.inl (Xj S.fr.n a)) (fun a=>a.elim S.key_own (e b));exact⟨S.fr.trans T.fr fun b a=>(a.elim S.key_own (e b)).symm,fun p d=>⟨f _ (T.own p d).1,(T.own p d).2⟩,fun p d=>⟨(T.gown p d).1,fun b a=>f b ((T.gown p d).2 b a)⟩,T.apart⟩
theorem St.callF(S:St M h0 h L G){i b:Nat}{o o':Ob}(l:L[i]? =some (b,o))(f:Mo (fun c=>c∈Fh\/c=b) h h')(m: ∀c∈Fh,(M c\/h0.n<=c)/\c∉keys L G)(r:Has h' b o'):St M h0 h' (L.set i (b,o')) G:=by
 have s:=S.own _ (Xu l);have g:(keys L G)[i]? =some b:=lO l;refine⟨S.fr.trans f (fun c k=>by grind),fun p a=>?_,fun p a=>⟨(S.gown p a).1.of_get fun c k=>?_,(S.gown p a).2⟩,?_⟩
 . rcases lM a with rfl|⟨j,n,a⟩
   . grind
   . have d:=S.own p (Xu a);refine⟨d.1,d.2.of_get (f.get _ (d.2.lt S.ok) fun e=>?_)⟩;rcases e with e|e
     . exact(m _ e).2 (jz (Xu a))
     . apply n;have q:(keys L G)[j]? =some b:=(by rw [lO a];rw [e]);exact oz S.apart q g
 . refine f.get c ((S.gown p a).1.lt S.ok k) fun e=>?_;rcases e with e|e
   . exact(m _ e).2 (hI a k)
   . subst e;have d:=S.apart;unfold keys at d;rw [List.nodup_append]at d;exact d.2.2 c (List.mem_map.2 ⟨_,Xu l,rfl⟩) c (List.mem_filterMap.2 ⟨p,a,k⟩) rfl
 . have:keys (L.set i (b,o')) G=keys L G:=(by unfold keys;congr 1;rw [Yd];refine Xt fun j=>?_;grind);rw [this];exact S.apart
theorem St.stepF(S:St M h0 h L G)(f:Mo (· ∈Fh) h h')(b: ∀c∈Fh,(M c\/h0.n<=c)/\c∉keys L G):St M h0 h' L G:=
 S.step f (fun c a=>(b c a).1) (fun c a d=>(b c d).2 a)
theorem St.permL(S:St M h0 h L G)(p:L'.Perm L):St M h0 h L' G:=
 ⟨S.fr,fun x a=>S.own x (p.mem_iff.1 a),S.gown,by
  have:(keys L' G).Perm (keys L G):=(p.map Prod.fst).append_right _;exact this.nodup_iff.2 S.apart⟩
end
theorem St.mono{M M':Nat->Prop}{h0 h:Hp}{L:List (Nat×Ob)}{G:List GL}(S:St M h0 h L G)(c: ∀b,M b->M' b):St M' h0 h L G:=
 ⟨S.fr.mono c,fun p a=>⟨(S.own p a).1.imp (fun h=>h) (c _),(S.own p a).2⟩,fun p a=>⟨(S.gown p a).1,fun b d=>((S.gown p a).2 b d).imp (fun h=>h) (c _)⟩,S.apart⟩
theorem Dj.exm{B:List Arc}{s N:Nat}{O:List Nat}{D:Nat->Nat}{K:Nat->Option Int}{b ex':Arc->Prop}(d:Dj B s N O D K b)(h: ∀a∈B,b a->ex' a):Dj B s N O D K ex':=
 ⟨d.i1,d.i2,d.i2f,d.i3,fun a c e f=>d.i4 a c e (fun g=>f (h a c g)),d.i5,d.nd,d.lt⟩
def noteSl:Value->Option Tch
 | .map (some r)=>some (.blk r)| .slice (some a) _ _=>some (.blk a.block)|_=>none
theorem AJ{ρ:Operand->Value}{b:Bool}{x y:Operand}{ts:Array TypeId}{h a:Hp}:cQ ρ b (.call ⟨.builtin .append,#[x,y],ts⟩) h a=noteSl (ρ x):=by simp only [cQ,dM,jG,fo,touch,cond_false];cases ρ x<;>first|rfl|(rename_i x;cases x<;>rfl)|(rename_i x _ _;cases x<;>rfl)
theorem pair_x{x:Option Tch}:jI x none=true:=by
 cases x with
 |none=>rfl|some b=>cases b<;>rfl
theorem entry_nl{i:Nat}:cM i []=none:=rfl
end Go.Ab

end
section
namespace Go.Ab
open Go.Proofs
set_option maxRecDepth 10000
def labC(N:Nat)(L:Nat->Nat):List Value:=(XB N).map fun v=>.int .i64 (L v:Nat)
def byI:List Nat->Int
 | []=> -1|a::_=>(a:Nat)
def byC(N:Nat)(P:Nat->List Nat):List Value:=(XB N).map fun v=>.int .i64 (byI (P v))
def clC(N:Nat)(O:List Nat):List Value:=(XB N).map fun v=>.bool (decide (v∈O))
theorem tZ{N v:Nat}{L:Nat->Nat}(h:v<N):(labC N L)[v]? =some (.int .i64 (L v:Nat)):=jQ (F:=fun v=>Value.int .i64 ((L v:Nat):Int)) h
theorem byC_at{N v:Nat}{P:Nat->List Nat}(h:v<N):(byC N P)[v]? =some (.int .i64 (byI (P v))):=jQ (F:=fun v=>Value.int .i64 (byI (P v))) h
theorem clC_at{N v:Nat}{O:List Nat}(h:v<N):(clC N O)[v]? =some (.bool (decide (v∈O))):=jQ (F:=fun v=>Value.bool (decide (v∈O))) h
theorem zQ{N:Nat}{L:Nat->Nat}:(labC N L).length=N:=by simp [labC]
theorem byC_len{N:Nat}{P:Nat->List Nat}:(byC N P).length=N:=by simp [byC]
theorem clC_len{N:Nat}{O:List Nat}:(clC N O).length=N:=by simp [clC]
theorem labC_set{N v x:Nat}{L:Nat->Nat}:(labC N L).set v (.int .i64 (x:Nat))=labC N (cV L v x):=by have:=jx (N:=N) (k:=v) (F:=fun v=>Value.int .i64 ((L v:Nat):Int)) (F':=fun u=>Value.int .i64 ((cV L v x u:Nat):Int)) (fun i _ a=>by simp [cV,a]);unfold labC;rw [<-this];simp [cV]
theorem byC_set{N v:Nat}{P:Nat->List Nat}{p:List Nat}:(byC N P).set v (.int .i64 (byI p))=byC N (lq P v p):=by have:=jx (N:=N) (k:=v) (F:=fun v=>Value.int .i64 (byI (P v))) (F':=fun u=>Value.int .i64 (byI (lq P v p u))) (fun i _ a=>by simp [lq,a]);unfold byC;rw [<-this];simp [lq]
theorem clC_set{N v:Nat}{O:List Nat}:(clC N O).set v (.bool true)=clC N (O++[v]):=by have:=jx (N:=N) (k:=v) (F:=fun v=>Value.bool (decide (v∈O))) (F':=fun u=>Value.bool (decide (u∈O++[v]))) (fun i _ a=>by simp [a]);unfold clC;rw [<-this];simp
def srL(f c d e N:Nat)(g p a b vE:Value)(σ:SS):List (Nat×Ob):=
 [(f,.row [g,p,.slice (some ⟨c,0,none⟩) N N,.slice (some ⟨d,0,none⟩) N N,.slice (some ⟨e,0,none⟩) N N,a,b,vE] 1),(c,.row (labC N σ.L) 1),(d,.row (byC N σ.P) 1),(e,.row (clC N σ.O) 1)]
def srG(vE:Value)(σ:SS):List GL:=[(vE,4,σ.ev.flatMap gG)]
def gD(h:Hp)(B:List Nat)(e:Nat)(f a b:Value)(N:Nat)(σ:SS):Prop:=
 ∃g i j p F d,B=keys (srL e g i j N f (ptrTo p) a b d σ) (srG d σ)++F/\(∀q∈srL e g i j N f (ptrTo p) a b d σ,Has h q.1 q.2)/\gf h (d,4,σ.ev.flatMap gG)/\(keys (srL e g i j N f (ptrTo p) a b d σ) (srG d σ)).Nodup/\dr h F (ptrTo p) N σ.K/\ ∀c∈F,c∉keys (srL e g i j N f (ptrTo p) a b d σ) (srG d σ)
theorem St.ofHas{M:Nat->Prop}{h:Hp}{L:List (Nat×Ob)}{G:List GL}(e:h.t.Sized h.n)(f: ∀q∈L,Has h q.1 q.2)(g: ∀p∈G,gf h p)(i:(keys L G).Nodup)(d: ∀c∈keys L G,M c):St M h h L G:=
 ⟨Mo.refl e,fun p a=>⟨.inr (d _ (jz a)),f p a⟩,fun p a=>⟨g p a,fun b j=>.inr (d _ (hI a j))⟩,i⟩
theorem gD.mo{M:Nat->Prop}{h f:Hp}{B:List Nat}{i N:Nat}{j a c:Value}{σ:SS}(r:gD h B i j a c N σ)(g:Mo M h f)(e: ∀b∈B,¬M b):gD f B i j a c N σ:=by obtain⟨n,o,s,p,F,k,rfl,t,l,u,v,w⟩:=r;refine⟨n,o,s,p,F,k,rfl,fun q m=>g.has (t q m) (e _ (Xd _ (jz m))),l.of_get fun b d=>g.get b (l.lt g.ok0 d) (e b (Xd _ (hI (p:=(k,4,σ.ev.flatMap gG)) m0 d))),u,v.mo g (fun b d=>e b (Xe _ d)),w⟩
theorem gD.gr{h c:Hp}{B:List Nat}{d N:Nat}{e a b:Value}{σ:SS}(r:gD h B d e a b N σ)(g:Gr h c):gD c B d e a b N σ:=r.mo (M:=NoM) g.fr (fun _ _ h=>h)
theorem gD.lt{h:Hp}(e:h.t.Sized h.n){B:List Nat}{f N:Nat}{g b d:Value}{σ:SS}(r:gD h B f g b d N σ): ∀c∈B,c<h.n:=by
 obtain⟨n,o,q,p,F,s,rfl,i,j,k,l,t⟩:=r;intro c a;rcases List.mem_append.1 a with a|a
 . exact(St.ofHas (M:=fun _=>True) e i (fun p m=>by cases m with|head=>exact j|tail _ h=>cases h) k (fun _ _=>trivial)).key_lt a
 . exact l.lt e c a
theorem Gr.mo'{hq h a:Hp}{B:List Nat}(g:Gr hq h)(f:Mo (· ∈B) h a)(b: ∀c∈B,hq.n<=c):Gr hq a:=((g.fr (M:=NoM)).trans f (fun i d=>.inr (b i d))).gr
def PiF(E:Env)(hq:Hp)(g:FuncId)(a N:Nat)(pi:Nat->Int):Prop:= ∀h,Gr hq h-> ∀v,v<N->aN E g [.int .i64 (v:Nat),ptrTo a] h (.int .i64 (pi v))
def AlF(E:Env)(hq:Hp)(g:FuncId)(b n:Nat)(al:Nat->Bool):Prop:= ∀h,Gr hq h-> ∀a,a<n->aN E g [.int .i64 (a:Nat),ptrTo b] h (.bool (al a))
theorem xY {hq h0:Hp} (gq:Gr hq h0) {B:List Nat} {d N x v lab:Nat} {p:List Nat} {y:FuncId} {z j:Value} {σ:SS} {pi:Nat->Int} (R:gD h0 B d z j (.func (.func y) #[] #[ptrTo x]) N σ) (ad:PiF zM hq y x N pi) (hN:N<=12) (l:v<N) (hl:lab<=12*du)
 (hp: -(FAR:Int)<=pi v) (hk: ∀k,σ.K v=some k->k=σ.L v+pi v):
 Ret zM 200 [ptrTo d,.int .i64 (v:Nat),.int .i64 (lab:Nat),.int .i64 (byI p)] h0 fun _ A=>Mo (· ∈B) h0 A/\ ∃G,gD A G d z j (.func (.func y) #[] #[ptrTo x]) N (dz pi σ v lab p)/\ ∀c∈G,c∈B\/h0.n<=c:=by
 have ok:=gq.ok;have R0:=R;obtain⟨t,w,C,I,F,u,rfl,hL,hG,nd,H,hF⟩:=R;have S:=St.ofHas (M:=fun c=>c∈keys (srL d t w C N z (ptrTo I) j (.func (.func y) #[] #[ptrTo x]) u σ) (srG u σ)++F) ok hL (fun p hp=>by cases hp with|head=>exact hG|tail _ h=>cases h) nd (fun c a=>Xd _ a);have fr:=dR;have wm:=nH;have m:dz pi σ v lab p=σ-> ∀h,Gr h0 h->Mo (· ∈keys (srL d t w C N z (ptrTo I) j (.func (.func y) #[] #[ptrTo x]) u σ) (srG u σ)++F) h0 h/\ ∃G,gD h G d z j (.func (.func y) #[] #[ptrTo x]) N (dz pi σ v lab p)/\ ∀c∈G,c∈keys (srL d t w C N z (ptrTo I) j (.func (.func y) #[] #[ptrTo x]) u σ) (srG u σ)++F\/h0.n<=c:=
  fun e h g=>⟨g.fr,_,by rw [e];exact R0.gr g,fun c a=>.inl a⟩
 generalize J:keys (srL d t w C N z (ptrTo I) j (.func (.func y) #[] #[ptrTo x]) u σ) (srG u σ)++F=BB at S m;have W: ∀c∈F,c∈BB\/h0.n<=c:=fun c a=>.inl (by rw [<-J];exact Xe _ a);unfold srL srG at S;have lF:=H.lt ok;have ll:=fun {b} hb=>S.key_lt (b:=b) hb;refine aa (n:=86) (rs:=[]) rfl Tryz.e200 rfl rfl rfl (lbt rfl) ?_;simp only [BZ,S.ld (b:=d) (o:=6) m0 rfl,seval];refine ag (ad _ gq v l) ?_;intro h g;replace S:=S.call g;replace H:=H.gr g;simp only [BZ,S.ld (b:=d) (o:=1) m0 rfl,seval];refine ag (xf S.ok H) ?_;intro A g';replace S:=S.call g';replace H:=H.gr g';replace g:=g.trans g';clear g' h;have n0:=g.n;have K:=(S.row (b:=C) m3).load1 (clC_at (O:=σ.O) l);have lL:=(S.row (b:=t) m1).load1 (tZ (L:=σ.L) l);by_cases hO:v∈σ.O
 . have U:decide (v∈σ.O)=true:=decide_eq_true hO;simp only [BZ,l,K,U,S.ld (b:=d) (o:=4) m0 rfl,S.ld (b:=d) (o:=2) m0 rfl,seval];exact m (by unfold dz;rw [if_pos (.inl hO)]) _ g
 . have U:decide (v∈σ.O)=false:=decide_eq_false hO;by_cases X:(FAR:Int)<=pi v
   . have Y:(72057594037927936:Int)<=pi v:=(by omega);simp only [BZ,l,K,U,Y,S.ld (b:=d) (o:=4) m0 rfl,S.ld (b:=d) (o:=2) m0 rfl,seval];exact m (by unfold dz;rw [if_pos (.inr (.inl X))]) _ g
   . have Y: ¬(72057594037927936:Int)<=pi v:=(by omega);have wl:am .i64 ((lab:Int)+pi v)=(lab:Int)+pi v:=(by rw [wrap64]<;>omega);have Z: ¬((σ.K v).isSome=true/\σ.L v<=lab)-> ∀(A:Hp) (s:List Nat),St (· ∈BB) h0 A [(d,.row [z,ptrTo I,.slice (some ⟨t,0,none⟩) N N,.slice (some ⟨w,0,none⟩) N N,.slice (some ⟨C,0,none⟩) N N,j,.func (.func y) #[] #[ptrTo x],u] 1),(t,.row ((labC N σ.L).set v (.int .i64 (lab:Nat))) 1),(w,.row ((byC N σ.P).set v (.int .i64 (byI p))) 1),(C,.row (clC N σ.O) 1)] [(u,4,σ.ev.flatMap gG)]->
      dr A s (ptrTo I) N (c8 σ.K v (some ((lab:Int)+pi v)))->(∀c∈s,c∈F\/h0.n<=c)->Mo (· ∈BB) h0 A/\ ∃G,gD A G d z j (.func (.func y) #[] #[ptrTo x]) N (dz pi σ v lab p)/\ ∀c∈G,c∈BB\/h0.n<=c:=by
      intro a A s T H' f;rw [labC_set,byC_set]at T;refine⟨T.fr,keys (srL d t w C N z (ptrTo I) j (.func (.func y) #[] #[ptrTo x]) u σ) (srG u σ)++s,?_,fun c a=>?_⟩
      . unfold dz;rw [if_neg (by simp only [not_or];exact⟨hO,X,a⟩)];refine⟨t,w,C,I,s,u,rfl,fun q hq=>(T.own q hq).2,(T.gown _ m0).1,T.apart,H',fun c a hm=>?_⟩;rcases f c a with D|D
        . exact hF c D hm
        . have:=ll (b:=c) hm;omega
      . rcases List.mem_append.1 a with a|a
        . exact .inl (by rw [<-J];exact Xd _ a)
        . rcases f c a with D|D
          . exact .inl (by rw [<-J];exact Xe _ D)
          . exact .inr D
     have E: ∀s:List Nat,(∀c∈s,c∈F\/h0.n<=c)-> ∀c∈s,¬(c=t)/\ ¬(c=w):=fun s h c a=>by
      rcases h c a with D|D
      . have:=hF c D;simp [srL,keys]at this;exact⟨this.2.1,this.2.2.1⟩
      . have h2:=ll (b:=t) (by simp [keys]);have h3:=ll (b:=w) (by simp [keys]);exact⟨fun e=>by omega,fun e=>by omega⟩
     have ap:=S.apart;have n1:d≠t:=fun e=>(by subst e;simp [keys]at ap);have n2:d≠w:=fun e=>(by subst e;simp [keys]at ap);have n3:t≠w:=fun e=>(by subst e;simp [keys]at ap);clear ap;cases V:σ.K v with
     | none=>
       simp only [BZ,l,K,U,Y,Xx,Xk,wl,S.ld (b:=d) (o:=4) m0 rfl,S.ld (b:=d) (o:=2) m0 rfl,S.ld (b:=d) (o:=1) m0 rfl,seval];refine step_ret (qE S.ok H l (by omega) V) ?_;rintro r h2 ⟨f2,s,H2,f⟩;replace S:=S.stepF f2 (fun c a=>⟨W c a,hF c a⟩);replace f: ∀c∈s,c∈F\/h0.n<=c:=fun c a=>(f c a).imp (fun h=>h) (fun h=>Xj n0 h);clear K lL;simp only [BZ];refine ar (ax rfl) (q:=0) (ps:=[]) (by kernel_rfl) ?_;simp only [BZ,cls,l,S.ld (b:=d) (o:=2) m0 rfl,S.ld (b:=d) (o:=3) m0 rfl,seval];refine df (aA S (i:=1) rfl Tryz.t2.2.2.1 bR (by rw [zQ];exact l) ono) ?_;clear S;rintro h3 ⟨S,P⟩;simp only [LC]at S;simp only [BZ,cls,l,seval];refine df (aA S (i:=2) rfl Tryz.t3.2.2.1 bR (by rw [byC_len];exact l) ono) ?_;clear S;rintro h4 ⟨S,Q⟩;simp only [LC]at S;simp only [BZ,seval];exact Z (by rw [V];simp) _ s S ((H2.mo P (fun c a=>(E s f c a).1)).mo Q (fun c a=>(E s f c a).2)) f
     | some k=>
       have ek:=hk k V;by_cases hle:σ.L v<=lab
       . have c2:(σ.L v:Int)<=(lab:Int):=(by omega);simp only [BZ,l,K,U,lL,Y,Xs,c2,S.ld (b:=d) (o:=4) m0 rfl,S.ld (b:=d) (o:=2) m0 rfl,seval];exact m (by unfold dz;rw [if_pos (.inr (.inr ⟨by rw [V];rfl,hle⟩))]) _ g
       . have c2: ¬(σ.L v:Int)<=(lab:Int):=(by omega);simp only [BZ,l,K,U,lL,Y,Xs,c2,wl,S.ld (b:=d) (o:=4) m0 rfl,S.ld (b:=d) (o:=2) m0 rfl,S.ld (b:=d) (o:=1) m0 rfl,seval];refine step_ret (sU S.ok H (by omega) V (k:=(lab:Int)+pi v) (by omega)) ?_;rintro r h2 ⟨f2,H2⟩;replace S:=S.stepF f2 (fun c a=>⟨W c a,hF c a⟩);have f: ∀c∈F,c∈F\/h0.n<=c:=fun c a=>.inl a;clear K lL;simp only [BZ];refine ar (ax rfl) (q:=0) (ps:=[]) (by kernel_rfl) ?_;simp only [BZ,cls,l,S.ld (b:=d) (o:=2) m0 rfl,S.ld (b:=d) (o:=3) m0 rfl,seval];refine df (aA S (i:=1) rfl Tryz.t2.2.2.1 bR (by rw [zQ];exact l) ono) ?_;clear S;rintro h3 ⟨S,P⟩;simp only [LC]at S;simp only [BZ,cls,l,seval];refine df (aA S (i:=2) rfl Tryz.t3.2.2.1 bR (by rw [byC_len];exact l) ono) ?_;clear S;rintro h4 ⟨S,Q⟩;simp only [LC]at S;simp only [BZ,seval];exact Z (by rw [V];simp;omega) _ F S ((H2.mo P (fun c a=>(E F f c a).1)).mo Q (fun c a=>(E F f c a).2)) f
theorem gD.close{M:Nat->Prop}{h0 h:Hp}{e f g i d N:Nat}{F:List Nat}{j a b vE:Value}{σ:SS}(S:St M h0 h (srL e f g i N j (ptrTo d) a b vE σ) (srG vE σ))(H:dr h F (ptrTo d) N σ.K)(k: ∀c∈F,c∉keys (srL e f g i N j (ptrTo d) a b vE σ) (srG vE σ)):
 gD h (keys (srL e f g i N j (ptrTo d) a b vE σ) (srG vE σ)++F) e j a b N σ:=
 ⟨f,g,i,d,F,vE,rfl,fun q l=>(S.own q l).2,(S.gown _ m0).1,S.apart,H,k⟩
theorem gD.open{h:Hp}(k:h.t.Sized h.n){B:List Nat}{i N:Nat}{j a b:Value}{σ:SS}(r:gD h B i j a b N σ): ∃e f g d F vE,B=keys (srL i e f g N j (ptrTo d) a b vE σ) (srG vE σ)++F/\St (· ∈B) h h (srL i e f g N j (ptrTo d) a b vE σ) (srG vE σ)/\dr h F (ptrTo d) N σ.K/\ ∀c∈F,c∉keys (srL i e f g N j (ptrTo d) a b vE σ) (srG vE σ):=by obtain⟨e,f,g,d,F,vE,rfl,l,m,n,o,q⟩:=r;exact⟨e,f,g,d,F,vE,rfl,St.ofHas k l (fun p s=>by cases s with|head=>exact m|tail _ h=>cases h) n (fun c t=>Xd _ t),o,q⟩
theorem uG(pi:Nat->Int)(σ:SS)(v lab:Nat)(p:List Nat):(dz pi σ v lab p).ev=σ.ev:=by unfold dz;split<;>rfl
theorem Ap(A:List Arc)(al:Nat->Bool)(pi:Nat->Int)(v:Nat)(σ:SS)(a:Nat):(scan1 A al pi v σ a).ev.length<=σ.ev.length+1:=by
 unfold scan1
 split
 . rw [uG];simp [evS]
 . omega
theorem sscan_ok {hq h0:Hp} (bi:hq.t.Sized hq.n) (gq:Gr hq h0) {d:Gra} (z:Good d) {nb E:Nat} (hn:aX hq nb (ptrTo E) d) {B:List Nat} {y u v s:Nat} {K N:FuncId} {σ:SS} {al:Nat->Bool} {pi:Nat->Int} (R:gD h0 B y (ptrTo E) (.func (.func K) #[] #[ptrTo u]) (.func (.func N) #[] #[ptrTo u]) d.nodes σ) (hB: ∀c∈B,hq.n<=c) (a1:AlF zM hq K u d.arcs.length al) (a2:PiF zM hq N u d.nodes pi) (hp: ∀v,v<d.nodes-> -(FAR:Int)<=pi v)
 (hv:v<d.nodes) (sv:Sv d.arcs d.nodes s al pi σ) (rm:Room σ v) (he:σ.ev.length<=10000):
 Ret zM 203 [ptrTo y,.int .i64 (v:Nat)] h0 fun _ h'=>Mo (· ∈B) h0 h'/\ ∃A,gD h' A y (ptrTo E) (.func (.func K) #[] #[ptrTo u]) (.func (.func N) #[] #[ptrTo u]) d.nodes (qq d.arcs al pi v σ)/\ ∀c∈A,c∈B\/h0.n<=c:=by
 have ok:=gq.ok;have n1:=z.n1;have n2:=z.n2;have wm:=nH;have hA: ∀a∈d.arcs,a.t<d.nodes/\a.w<=du:=fun a G=>⟨(z.arcs a G).2.1,(z.arcs a G).2.2⟩;have l0:h0.load y 0 1=some [ptrTo E]:=by obtain⟨U,W,X,Y,F,vE,rfl,D,_⟩:=R;exact Row.load1 (show Row h0 y _ 1 from D _ m0) (o:=0) rfl
 have S:=Si ok;refine aa (n:=62) (rs:=[]) rfl Tryz.e203 rfl rfl rfl (lbt rfl) ?_;simp only [BZ,l0,seval];refine step_ret (yi S.ok (hn.gr gq) (by have:=z.many;omega) hv) ?_;rintro vl D ⟨g,sl,r⟩;have lB:=R.lt ok;have R1:=R.gr g;have a3:=g.ok;have ol:=lE d.arcs Arc.s d.arcs.length v;have be:=z.many;have bm:=g.n;simp only [BZ,sl.lenq,seval];refine aV (fun(i:Nat) V h=>i<=(outs d.arcs Arc.s d.arcs.length v).length/\ ∃A,Mo (· ∈B) D h/\gD h A y (ptrTo E) (.func (.func K) #[] #[ptrTo u]) (.func (.func N) #[] #[ptrTo u]) d.nodes (((outs d.arcs Arc.s d.arcs.length v).take i).foldl (scan1 d.arcs al pi v) σ)/\(∀c∈A,c∈B\/D.n<=c)/\
  V 0=ptrTo y/\V 1=.int .i64 (v:Nat)/\V 13=vl/\V 14=.int .i64 ((outs d.arcs Arc.s d.arcs.length v).length:Nat)/\V 15=.int .i64 i) (fun i=>(outs d.arcs Arc.s d.arcs.length v).length-i) ?_ 0 _ _ ?_
 . clear S l0;intro i ih V hS ⟨hi,A,f,R',hB',r0,r1,r13,r14,r15⟩;by_cases hlt:i<(outs d.arcs Arc.s d.arcs.length v).length
   . have a4: ∀c∈A,hq.n<=c:=fun c r=>(hB' c r).elim (hB c) (fun h=>by have:=gq.n;omega);have gh:Gr hq hS:=(gq.trans g).mo' f hB;have a5:=sl.mo f (fun b hb O=>by have:=r b hb;have:=lB b O;omega);obtain⟨c,o,Z,ad⟩:=a5.ix (kd:=.i64) dV hlt;have O:=gC.1 (Xy hlt);have w:am .i64 ((i:Int)+1)=((i+1:Nat):Int):=(by rw [wrap64]<;>omega);have a6: ∀a∈(outs d.arcs Arc.s d.arcs.length v).take i,a<d.arcs.length/\(d.arcs.getD a default).s=v:=fun a G=>gC.1 (XZ G);obtain⟨Q,ki⟩:=Sv.scanL hA _ sv rm a6;have af:=rm.keeps ki;have a7:(((outs d.arcs Arc.s d.arcs.length v).take i).foldl (scan1 d.arcs al pi v) σ).ev.length<=10000+i:=by
      have: ∀(l:List Nat) (σ:SS),(l.foldl (scan1 d.arcs al pi v) σ).ev.length<=σ.ev.length+l.length:=by
       intro l
       induction l with
       |nil=>intro σ;simp|cons a l ih=>intro σ;have D:=ih (scan1 d.arcs al pi v σ a);have h2:=Ap d.arcs al pi v σ a;simp only [List.foldl_cons,List.length_cons];omega
      have D:=this ((outs d.arcs Arc.s d.arcs.length v).take i) σ;rw [Xw]at D;omega
     have tk:(outs d.arcs Arc.s d.arcs.length v).take (i+1)=(outs d.arcs Arc.s d.arcs.length v).take i++[(outs d.arcs Arc.s d.arcs.length v)[i]]:=(by rw [List.take_add_one,Xb hlt];rfl);have I:((outs d.arcs Arc.s d.arcs.length v).take (i+1)).foldl (scan1 d.arcs al pi v) σ=scan1 d.arcs al pi v (((outs d.arcs Arc.s d.arcs.length v).take i).foldl (scan1 d.arcs al pi v) σ) (outs d.arcs Arc.s d.arcs.length v)[i]:=(by rw [tk,List.foldl_append];rfl);generalize(((outs d.arcs Arc.s d.arcs.length v).take i).foldl (scan1 d.arcs al pi v) σ)=t at R' Q ki af a7 I;generalize(outs d.arcs Arc.s d.arcs.length v)[i]=a at O ad I;obtain⟨G,bn⟩:=O;obtain⟨U,W,X,Y,F,vE,T,S,H,hF⟩:=R'.open f.ok;have bo:=R'.lt f.ok;have J: ∀c∈keys (srL y U W X d.nodes (ptrTo E) (ptrTo Y) (.func (.func K) #[] #[ptrTo u]) (.func (.func N) #[] #[ptrTo u]) vE t) (srG vE t),c∈A:=fun c r=>(by rw [T];exact Xd _ r);have a8: ∀c∈F,c∈A:=fun c r=>(by rw [T];exact Xe _ r);have lF:=H.lt f.ok;replace S:=S.base;generalize bq:keys (srL y U W X d.nodes (ptrTo E) (ptrTo Y) (.func (.func K) #[] #[ptrTo u]) (.func (.func N) #[] #[ptrTo u]) vE t) (srG vE t)=KK at S J hF T;unfold srL srG at S;simp only [BZ,r0,r13,r14,r15,az,hlt,Z,ad,cq,S.ld (b:=y) (o:=5) m0 rfl,seval];refine ag (a1 _ gh a G) ?_;intro h' g';replace S:=S.call g';have bt:=g'.n;cases P:al a with
     | false=>
       simp only [BZ,r15,w,seval];refine ih (i+1) _ _ (by omega) ⟨by omega,A,f.trans (M':=NoM) g'.fr (fun _ h=>h.elim),?_,hB',by simp [aw,r0,ah,r1,r13,r14]⟩;rw [I];unfold scan1;rw [P,if_neg Bool.false_ne_true];exact R'.gr g'
     | true=>
       have bu:Fl vE:=(S.gown _ m0).1.fl;simp only [BZ,r0,S.ld (b:=y) (o:=7) m0 rfl,seval];refine ac (bV (by exact Tryz.t44.1) (by exact Tryz.e56E) (by decide) (by rfl)) S ?_;clear S;intro h bs S bf;simp only [LC,a9,bQ,ae,Xv,Xl,Xn,XC,seval]at S;simp only [BZ,seval];have ai:aR h 4 (.slice (some ⟨bs,0,none⟩) 1 1)=some (1,gG ⟨1,a,0⟩):=(by simp only [aR];rw [S.lds (b:=bs) (o:=0) (n:=1*4) m0 (lbt rfl)];rfl);replace S:=S.drop1;refine dP (S.grow (j:=0) (m:=1) (new:=gG ⟨1,a,0⟩) rfl Tryz.t44.1 Tryz.e56E (by decide) Tryz.t44.2.2.2.2.2 ai rfl (by decide) rfl (by rw [ct m9];show(_+4)*_<=_;omega)) ?_;clear S ai;rintro h2 C S;simp only [LC]at S;have ak:Fl C:=(S.gown _ m0).1.fl;simp only [BZ,seval];refine aC (aA S (i:=0) rfl Tryz.t44.2.2.1 ak (Xg (lbt rfl)) ono) ?_;clear S;rintro h3 ⟨S,_⟩;simp only [LC]at S;have eE:(t.ev++[(⟨1,a,0⟩:Ev)]).flatMap gG=t.ev.flatMap gG++gG ⟨1,a,0⟩:=(by rw [X7];simp);rw [<-eE]at S;simp only [BZ,r0,S.ld (b:=y) (o:=0) m0 rfl,seval];have an: ∀c∈KK,hq.n<=c:=fun c r=>a4 c (J c r);refine step_ret (lU S.ok (hn.gr (gh.mo' S.fr an)) G) ?_;rintro rv h4 ⟨g4,rfl⟩;replace S:=S.call g4;clear g4;have ga:d.arcs[a]=d.arcs.getD a default:=(by simp [Xa,G]);have aL:=hA (d.arcs.getD a default) (by rw [<-ga];exact Xy G);have lv:=af.2.1;have bv:t.O.length*du<=12*du:=X2 _ (Xj Q.len n2);rw [ga];simp only [BZ,dw,seval];refine ac ay S ?_;clear S;intro h b6 S bh;simp only [BZ,seval];refine aC (S.store (i:=0) rfl ?_ ?_ rfl rfl ?_ ono) ?_
       . exact(by exact Tryz.t139.2.1)
       . exact(by intro x e;cases e)
       . exact lbt rfl
       clear S;rintro h ⟨S,mo⟩;clear mo;simp only [LC,ae,lay,Xp,Xq,seval]at S;simp only [BZ,seval];have lL:=(S.row (b:=U) m2).load1 (tZ (L:=t.L) hv);have wn:am .i64 ((t.L v:Int)+((d.arcs.getD a default).w:Int))=((t.L v+(d.arcs.getD a default).w:Nat):Int):=(by rw [wrap64]<;>omega);refine ar (ax rfl) (q:=0) (ps:=[]) (by kernel_rfl) ?_;simp only [BZ,cls,r0,r1,wn,hv,lL,S.ld (b:=y) (o:=2) m1 rfl,S.ld (b:=b6) (o:=1) m0 rfl,S.ld (b:=b6) (o:=2) m0 rfl,seval];have kn:=fun c r=>(S.key_own (b:=c) r).symm;have kf:=S.fr;have gx:=gh.mo' S.fr an;have bc: ∀c∈F,c∉keys (srL y U W X d.nodes (ptrTo E) (ptrTo Y) (.func (.func K) #[] #[ptrTo u]) (.func (.func N) #[] #[ptrTo u]) C (evS t ⟨1,a,0⟩)) (srG C (evS t ⟨1,a,0⟩)):=fun c r O=>by
        rcases kn c (X4 _ O)with D|D
        . exact hF c r D
        . have:=lF c r;omega
       have R2:=gD.close (σ:=evS t ⟨1,a,0⟩) (vE:=C) S.drop1 (H.mo kf (fun c r O=>hF c r O)) bc;have a0: ∀c∈keys (srL y U W X d.nodes (ptrTo E) (ptrTo Y) (.func (.func K) #[] #[ptrTo u]) (.func (.func N) #[] #[ptrTo u]) C (evS t ⟨1,a,0⟩)) (srG C (evS t ⟨1,a,0⟩))++F,c∈A\/hS.n<=c:=fun c r=>by
        rcases List.mem_append.1 r with r|r
        . exact(kn c (X4 _ r)).imp (J c) (fun h=>h)
        . exact .inl (a8 c r)
       refine cu (xY (p:=a::t.P v) (lab:=t.L v+(d.arcs.getD a default).w) gx R2 a2 n2 aL.1 (by omega) (hp _ aL.1) (fun k hk=>(Q.op _ k hk).2.2.2)) ?_;rintro rv h5 ⟨f5,B3,R3,bd⟩;simp only [BZ,r15,w,seval];have nh:=f.n;have nx:=kf.n;have gB: ∀c,c∈A\/hS.n<=c->c∈B\/D.n<=c:=fun c r=>r.elim (hB' c) (fun h=>.inr (by omega));refine ih (i+1) _ _ (by omega) ⟨by omega,B3,(f.trans kf (fun c r=>gB c (.inl (J c r)))).trans f5 (fun c r=>gB c (a0 c r)),?_,fun c r=>gB c ((bd c r).elim (a0 c) (fun h=>.inr (by omega))),by simp [aw,r0,ah,r1,r13,r14]⟩;rw [I];unfold scan1;rw [P,if_pos rfl];exact R3
   . have ei:i=(outs d.arcs Arc.s d.arcs.length v).length:=(by omega);simp only [BZ,r14,r15,az,hlt,seval];refine⟨(g.fr (M:=(· ∈B))).trans f (fun c r=>.inl r),A,?_,fun c r=>(hB' c r).imp (fun h=>h) (fun h=>by omega)⟩;rw [ei,List.take_length]at R';exact R'
 . exact⟨XI _,B,Mo.refl a3,R1,fun c r=>.inl r,by simp [aw,cD,ah,dK]⟩
def IterW(E:Env)(g:FuncId)(post:List Value)(h0:Hp)(D W:Nat->Prop)(xs:List (List Value)):Prop:=
 ∀a J Z,(∀v h,¬Z (.pan v) h)->Yld E a J Z xs->(∀i h F c,J i h F->Mo W h c->J i c F)-> ∀h F,ItS h0 D h F->(∀b,W b->h.get b=h0.get b)->(∀b∈F,¬W b)->J 0 h F->fZ E g ([]++[.func (.yield a) #[] #[]]++post) none h (YQ J Z xs.length)
theorem iter_w{E:Env}{g:FuncId}{post:List Value}{h0:Hp}{D:Nat->Prop}{xs:List (List Value)}(H:mi E g [] post h0 D xs):IterW E g post h0 D NoM xs:=fun a J Z b Y _ h F s _ _ c=>H a J Z b Y h F s c
theorem uZ(l:List Nat):(l.flatMap cq).length=l.length:=by rw [ct dV];omega
theorem q8{h:Hp}{p:GL}(g:gf h p){c:Nat}(a:aq p.1 c):eZ p=some c:=by
 rcases g with⟨e,_⟩|⟨b,n,e,_⟩
 . rw [e]at a;exact a.elim
 . obtain⟨v,k,d⟩:=p;simp only []at e a;subst e;exact congrArg some a
theorem yL{h0:Hp}(Z:h0.t.Sized h0.n){g:FuncId}{post:Array Value}{D W:Nat->Prop}{xs:List Nat}(it:IterW zM g post.toList h0 D W (xs.map fun(x:Nat)=>[.int .i64 x]))(J: ∀b,W b->b<h0.n)(hn:xs.length<100000):
 Ret zM 161 [.slice none 0 0,.func (.func g) #[] post] h0 fun r l=>Mo W h0 l/\gf l (r,1,xs.flatMap cq)/\ ∀c,aq r c->h0.n<=c:=by
 have S:=Si Z;refine aa (n:=13) (rs:=[.tmp 4]) rfl Tryz.e161 rfl rfl rfl (lbt rfl) ?_;simp only [BZ,seval];refine ac (bW (by exact bO)) S ?_;clear S;intro h p S u;simp only [BZ,if_false,seval];replace S:=S.nilG (k:=1);have K:=S.gr;replace S:=S.monoM (M:=W);have E:=S.fr;refine hZ S (g:=g) (a:=#[]) (b:=post) (by simp [bA,aw,cD,dK]) rfl rfl ?_;intro G v t q ad af N;obtain⟨X,O,q⟩: ∃X:fu,X=_/\St W h0 G [(t,.loop X),(v,.dfr),(p,.row [.slice none 0 0] 1)] [(.slice none 0 0,1,[])]:=⟨_,rfl,q⟩;have P: ∀c,h0.n<=c-> ¬W c:=fun c h H=>by have:=J c H;omega
 have hJ:Yld zM t (fun k l F=> ∃(e:Value),St W h0 l [(t,.loop X),(v,.dfr),(p,.row [e] 1)] [(e,1,(xs.take k).flatMap cq)]/\k<=xs.length/\(∀c∈F,h0.n<=c)/\F=keys [(t,.loop X),(v,.dfr),(p,.row [e] 1)] [(e,1,(xs.take k).flatMap cq)]) (fun _ _=>False) (xs.map fun(x:Nat)=>[.int .i64 x]):=by
  refine⟨?_,?_,fun _ _ h=>h.elim,?_⟩
  . rintro i h F ⟨e,S,_,_,rfl⟩;exact⟨S.ok,fun b f=>S.key_lt f⟩
  . rintro i h F l ⟨e,S,a,b,rfl⟩ C;exact⟨e,S.call C,a,b,rfl⟩
  . rintro i x hR F w ⟨e,S,a,b,rfl⟩;have z:i<xs.length:=(by have:=(List.getElem?_eq_some_iff.1 w).1;simpa using this);rw [Xo,Xb z]at w;cases w;have tk:(xs.take (i+1)).flatMap cq=(xs.take i).flatMap cq++[.int .i64 (xs[i]:Nat)]:=(by rw [List.take_add_one,Xb z,X7];rfl);have tl:(xs.take i).length<=i:=(by rw [Xw];omega);subst O;refine ia (S.get m0) (by rw [Tryz.e161];rfl) rfl ?_;have Q:=S;replace S:=S.base;simp only [BZ,seval];refine fU S (i:=0) rfl rfl rfl rfl rfl ?_;clear S;intro h S;simp only [LC]at S;simp only [BZ,S.ld (b:=p) (o:=0) m2 rfl,seval];refine ac (bV (by exact Tryz.t41.1) (by exact XJ) (by decide) (by rfl)) S ?_;clear S;intro h R S U;simp only [LC,a9,bQ,ae,Xv,Xl,Xn,XC,seval]at S;simp only [BZ,seval];have A:aR h 1 (.slice (some ⟨R,0,none⟩) 1 1)=some (1,[.int .i64 (xs[i]:Nat)]):=(by simp only [aR];rw [S.lds (b:=R) (o:=0) (n:=1*1) m0 (lbt rfl)];rfl);replace S:=S.drop1;refine dP (S.grow (j:=0) (m:=1) (new:=[.int .i64 (xs[i]:Nat)]) rfl Tryz.t41.1 XJ (by decide) Tryz.t41.2.2.2.2.2 A rfl (by decide) rfl (by rw [uZ];simp;omega)) ?_;clear S A;rintro h B S;simp only [LC]at S;have fv:Fl B:=(S.gown _ m0).1.fl;simp only [BZ,seval];refine aC (aA S (i:=2) rfl Tryz.t41.2.2.1 fv (Xg (lbt rfl)) ono) ?_;clear S;rintro h ⟨S,_⟩;simp only [LC]at S;simp only [BZ];refine eg S (i:=0) rfl ?_;clear S;intro h S;simp only [LC]at S;rw [<-tk]at S;have I:=Q.rebase S;refine .inl ⟨rfl,_,⟨B,I,by omega,fun c d=>?_,rfl⟩,S.fr,fun c d=>(S.key_own d).symm⟩;rcases S.key_own d with V|V
    . have:=Q.fr.n;omega
    . exact b c V
 have s: ∀c∈keys [(t,Ob.loop X),(v,.dfr),(p,.row [.slice none 0 0] 1)] [(.slice none 0 0,1,[])],h0.n<=c:=fun c d=>by have n2:=u;have:=E.n;simp [keys,eZ]at d;omega
 refine eH (it t _ _ (fun _ _ h=>h) hJ ?_ G _ ?_ ?_ (fun c d=>P c (s c d)) ⟨_,q,XI _,s,rfl⟩) fun o rc l y=>jn y ?_
 . rintro i h F l ⟨e,S,a,b,rfl⟩ C;exact⟨e,S.step C (fun c d=>.inl d) (fun c d H=>P c (b c d) H),a,b,rfl⟩
 . have C:Mo W h0 G:=q.fr;exact⟨q.ok,q.fr.n,fun b f _=>(K.trans N).get b f,fun b f h=>by have:=s b f;omega,fun b f=>q.key_lt f⟩
 . exact fun b f=>(K.trans N).get b (J b f)
 . rintro F ⟨e,T,a,b,rfl⟩;rw [XV,List.take_length]at T b;subst O;refine⟨_,T.get m0,Nat.zero_ne_one,?_⟩;replace T:=T.dead;have S:=T;show Run _ _ _ _ _ _ _ _;simp only [BZ,S.ld (b:=p) (o:=0) m1 rfl,seval];refine dJ (gu [v] _ (L:=[(p,_)]) T.base fun h3 Y=>⟨rfl,_,rfl,?_⟩);refine⟨(T.fr.trans Y.fr (fun c d=>(T.key_own d).symm):Mo W h0 h3),(Y.gown _ m0).1,fun x w=>?_⟩;refine b x ?_;have:eZ (e,1,xs.flatMap cq)=some x:=q8 (T.gown _ m0).1 w;exact hI m0 this
theorem um{h0:Hp}(d:h0.t.Sized h0.n){g:FuncId}{post:Array Value}{D W:Nat->Prop}{xs:List Nat}(e:IterW zM g post.toList h0 D W (xs.map fun(x:Nat)=>[.int .i64 x]))(i: ∀b,W b->b<h0.n)(j:xs.length<100000):
 Ret zM 67 [.func (.func g) #[] post] h0 fun r a=>Mo W h0 a/\gf a (r,1,xs.flatMap cq)/\ ∀c,aq r c->h0.n<=c:=by
 have S:=Si d;refine aa (n:=5) (rs:=[.tmp 2]) rfl Tryz.e67 rfl rfl rfl (lbt rfl) ?_;simp only [BZ,seval];refine step_ret (yL S.ok e i j) ?_;rintro r h ⟨f,q⟩;simp only [BZ,ab,seval];exact⟨f,q⟩
theorem sback_ok{h0:Hp}(f:h0.t.Sized h0.n){d v:Nat}:Ret zM 202 [ptrTo d,.int .i64 v] h0 fun r c=>Gr h0 c/\ ∃b1 b2,r=.func (.func 253) #[] #[ptrTo b1,ptrTo b2]/\h0.n<=b1/\h0.n<=b2/\b1≠b2/\c.load b1 0 1=some [ptrTo d]/\Row c b2 [.int .i64 v] 1:=by have S:=Si f;refine aa (n:=6) (rs:=[.tmp 4]) rfl Tryz.e202 rfl rfl rfl (lbt rfl) ?_;simp only [BZ,seval];refine ac (bW (by exact cP)) S ?_;clear S;intro h b1 S a;simp only [BZ,if_false,seval];refine ac (bW (by exact bR)) S ?_;clear S;intro h b2 S b;simp only [BZ,ab,seval];have g:=S.apart;exact⟨S.gr,b1,b2,rfl,a,b,fun e=>(by subst e;simp [keys]at g),S.ld m1 rfl,S.row m0⟩
theorem back_it{hq h0:Hp}(V:hq.t.Sized hq.n)(W:Gr hq h0){g:Gra}(aL:Good g){nb z:Nat}(hn:aX hq nb (ptrTo z) g){B:List Nat}{t b1 b2 s:Nat}{m p:Value}{σ:SS}{al:Nat->Bool}{pi:Nat->Int}(R:gD h0 B t (ptrTo z) m p g.nodes σ)(sv:Sv g.arcs g.nodes s al pi σ){k:Nat}(hu:k∈σ.O)
 (e1:h0.load b1 0 1=some [ptrTo t]) (e2:Row h0 b2 [.int .i64 k] 1) (d1:b2∉B) (d2:b1≠b2) (d3:hq.n<=b2):
 IterW zM 253 [ptrTo b1,ptrTo b2] h0 (fun c=>c=b1\/c∈B\/c<hq.n) (· =b2) ((σ.P k).map fun(a:Nat)=>[.int .i64 a]):=by
 intro lb J Z hz Y hW h F r w C D;have f:=W.ok;obtain⟨X,E,bk,ph,F',A,rfl,hL,_⟩:=R;have rr:Row h0 t _ 1:=hL _ m0;have rb:Row h0 E (byC g.nodes σ.P) 1:=hL _ m2;have G:t∈keys (srL t X E bk g.nodes (ptrTo z) (ptrTo ph) m p A σ) (srG A σ)++F':=Xd _ (by simp [srL,keys]);have O:E∈keys (srL t X E bk g.nodes (ptrTo z) (ptrTo ph) m p A σ) (srG A σ)++F':=Xd _ (by simp [srL,keys]);generalize keys (srL t X E bk g.nodes (ptrTo z) (ptrTo ph) m p A σ) (srG A σ)++F'=B at d1 G O r;have l0:=rr.load1 (o:=0) rfl;have l3:=rr.load1 (o:=3) rfl;have d:Row h b2 [.int .i64 k] 1:=Row.of_get (w b2 rfl) e2;have q2:=d.load1 (o:=0) rfl;have Q:=sv.lt k hu;have H:=r.load f e1 (.inl rfl);have T:=r.load f l3 (.inr (.inl G));have U:=r.load f (rb.load1 (byC_at (P:=σ.P) Q)) (.inr (.inl O));refine enter (n:=39) (rs:=[]) rfl Tryz.e253 rfl rfl rfl (lbt rfl) ?_;simp only [BZ];refine ar (ax rfl) (q:=0) (ps:=[]) (by kernel_rfl) ?_;simp only [BZ,cls,H,q2,T,U,Q,seval];refine aV (fun(j:Nat) I h=>j<=(σ.P k).length/\ ∃u F,u∈σ.O/\σ.P u=(σ.P k).drop j/\ItS h0 (fun c=>c=b1\/c∈B\/c<hq.n) h F/\b2∉F/\J j h F/\Row h b2 [.int .i64 (u:Nat)] 1/\I 0=.func (.yield lb) #[] #[]/\I 1=ptrTo b1/\I 2=ptrTo b2/\I 4=.int .i64 (byI (σ.P u))) (fun j=>(σ.P k).length-j) ?_ 0 _ _ ?_
 . clear H q2 T U Q d D C w r F h;intro j ih I hS ⟨hj',u,F,hu',hP,r,C,D,d,r0,r1,r2,r4⟩;have Q:=sv.lt u hu';rcases sv.path u (.inl hu')with⟨_,e,_⟩|⟨a,ha,a0,ht,hs,e,_⟩
   . have ej:j=(σ.P k).length:=(by rw [e]at hP;have:=congrArg List.length hP;rw [List.length_drop]at this;simp at this;omega);rw [e]at r4;simp only [byI]at r4;simp only [BZ,r4,seval];exact cy (cJ ⟨rfl,_,rfl,rfl,.inl ⟨_,F,rfl,by rw [XV,<-ej];exact D⟩⟩)
   . have hlt:j<(σ.P k).length:=(by rw [e]at hP;have:=congrArg List.length hP;rw [List.length_drop]at this;simp at this;omega);have K:(σ.P k)[j]=a/\(σ.P k).drop (j+1)=σ.P (g.arcs.getD a default).s:=(by rw [e,XT hlt]at hP;injection hP with h1 h2;exact⟨h1.symm,h2.symm⟩);have hx:((σ.P k).map fun(a:Nat)=>[Value.int .i64 a])[j]? =some [.int .i64 (a:Nat)]:=(by rw [Xo,Xb hlt,K.1];rfl);rw [e]at r4;simp only [byI]at r4;have c0:(0:Int)<=(a:Int):=(by omega);have ak:=d.lt r.ok;simp only [BZ,r0,r4,c0,seval];refine cZ Y r D (i:=j) hx ?_ ?_ ?_
     . intro L F2 ad l f2 af;have y:Row L b2 [.int .i64 (u:Nat)] 1:=f2.has (o:=.row _ 1) d C;have ai:b2∉F2:=fun hm=>(af b2 hm).elim C (fun h=>by omega);have S:=St.init1 l.ok (o:=.row _ 1) y;have H:=l.load f e1 (.inl rfl);have q0:=l.load f l0 (.inr (.inl G));have T:=l.load f l3 (.inr (.inl G));have sN:=sv.lt _ hs;have U:=l.load f (rb.load1 (byC_at (P:=σ.P) sN)) (.inr (.inl O));have nt:aX L nb (ptrTo z) g:=hn.keep V (l.keep (Gr.keep W) W.n (fun c hc=>.inr (.inr hc)));simp only [BZ,r1,r4,H,q0,seval];refine step_ret (lU S.ok nt ha) ?_;rintro rv h4 ⟨g4,rfl⟩;replace S:=S.call g4;clear g4;have ga:g.arcs[a]=g.arcs.getD a default:=(by simp [Xa,ha]);rw [ga];have M: ∀{c},c=b1\/c∈B-> ¬c=b2:=fun hc e=>(by subst e;exact hc.elim (fun h=>d2 h.symm) d1);simp only [BZ,dw,seval];refine ac ay S ?_;clear S;intro h b5 S an;simp only [BZ,seval];refine aC (S.store (i:=0) rfl ?_ ?_ rfl rfl ?_ ono) ?_
       . exact(by exact Tryz.t139.2.1)
       . exact(by intro x e;cases e)
       . exact lbt rfl
       clear S;rintro h ⟨S,mo⟩;clear mo;simp only [LC,ae,lay,Xp,Xq,seval]at S;simp only [BZ,r2,S.ld (b:=b5) (o:=0) m0 rfl,seval];refine aC (aA S (i:=1) rfl ?_ ?_ ?_ ono) ?_
       . exact(by simp only [FA0])
       . exact(by exact bR)
       . exact Xg (lbt rfl)
       clear S;rintro h ⟨S,mo⟩;clear mo;simp only [LC,ae,lay,Xp,Xq,seval]at S;have k1:=S.old H (M (.inl rfl));have k3:=S.old T (M (.inr G));have k4:=S.old U (M (.inr O));simp only [BZ];refine ar (ax rfl) (q:=0) (ps:=[]) (by kernel_rfl) ?_;simp only [BZ,cls,r1,r2,k1,k3,k4,sN,S.ld (b:=b2) (o:=0) m1 rfl,seval];have N:=S.fr;refine ih (j+1) _ _ (by omega) ⟨by omega,(g.arcs.getD a default).s,F2,hs,K.2.symm,?_,ai,hW _ _ _ _ ad N,S.row (by simp),by simp [aw,r0,r1,ah,r2]⟩;exact⟨N.ok,Xj l.n N.n,fun b w K=>(N.get b (XG w l.n) (by rcases K with h|h|h;exact M (.inl h);exact M (.inr h);exact fun e=>by omega)).trans (l.data b w K),l.apart,fun b w=>XG (l.lt b w) N.n⟩
     . intro L a' _;simp only [BZ,seval];exact cy (cJ ⟨rfl,_,rfl,rfl,.inr (.inl ⟨_,rfl,a'⟩)⟩)
     . intro v L a';exact absurd a' (hz v L)
 . exact⟨XI _,k,F,hu,by rw [XO],r,fun hm=>C b2 hm rfl,D,d,by simp [aw,dh,ah]⟩
def rvC(n k:Nat)(f:Nat->Value):List Value:=(XB n).map fun p=>if p<k\/n<=p+k then f (n-1-p)else f p
theorem mU{n k:Nat}{f:Nat->Value}:(rvC n k f).length=n:=by simp [rvC]
theorem qT{n k i:Nat}{f:Nat->Value}(h:i<n):(rvC n k f)[i]? =some (if i<k\/n<=i+k then f (n-1-i)else f i):=jQ (F:=fun p=>if p<k\/n<=p+k then f (n-1-p)else f p) h
theorem rvC_step{n k:Nat}{f:Nat->Value}(h:2*k+1<n):((rvC n k f).set k (f (n-1-k))).set (n-1-k) (f k)=rvC n (k+1) f:=by
 refine Xt fun i=>?_;rw [List.getElem?_set,List.getElem?_set,Xh,mU];by_cases a:i<n
 . rw [qT a,qT a];by_cases b:n-1-k=i
   . subst b;rw [if_pos rfl,if_pos a,if_pos (.inr (by omega)),show n-1-(n-1-k)=k by omega]
   . rw [if_neg b];by_cases d:k=i
     . subst d;rw [if_pos rfl,if_pos a,if_pos (.inl (by omega))]
     . rw [if_neg d];congr 1;by_cases c:i<k\/n<=i+k
       . rw [if_pos c,if_pos (by omega)]
       . rw [if_neg c,if_neg (by omega)]
 . rw [if_neg (by omega),if_neg (by omega)];rw [Xm (by rw [mU];omega),Xm (by rw [mU];omega)]
theorem rvC_zero{xs:List Nat}:xs.flatMap cq=rvC xs.length 0 fun p=>.int .i64 (xs.getD p 0:Nat):=by
 have e:xs.flatMap cq=xs.map fun(x:Nat)=>Value.int .i64 x:=by rw [Xf,XD,Xf];rfl
 rw [e];refine Xt fun i=>?_;by_cases a:i<xs.length
 . rw [qT a,if_neg (by omega)];simp [a]
 . rw [Xm (by simpa using a),Xm (by rw [mU];omega)]
theorem rvC_done{xs:List Nat}{k:Nat}(h:xs.length<=2*k+1)(d:2*k<=xs.length):rvC xs.length k (fun p=>.int .i64 (xs.getD p 0:Nat))=xs.reverse.flatMap cq:=by
 have e:xs.reverse.flatMap cq=xs.reverse.map fun(x:Nat)=>Value.int .i64 x:=by rw [Xf,XD,Xf];rfl
 rw [e];refine Xt fun i=>?_;by_cases b:i<xs.length
 . rw [qT b,Xo,List.getElem?_reverse b];have a:xs.length-1-i<xs.length:=(by omega);rw [Xb a];have g: ∀{j:Nat} (a:j<xs.length),xs.getD j 0=xs[j]:=fun a=>(by simp [Xa,a]);by_cases c:i<k\/xs.length<=i+k
   . rw [if_pos c,g a];rfl
   . rw [if_neg c];have:i=xs.length-1-i:=(by omega);rw [g b];simp only [Xz];congr 3;simp only [<-this]
 . rw [Xm (by rw [mU];omega),Xm (by simpa using b)]
theorem Bd{h0:Hp}(u:h0.t.Sized h0.n){v:Value}{xs:List Nat}(z:gf h0 (v,1,xs.flatMap cq))(M:xs.length<1000000):
 Ret zM 138 [v] h0 fun _ w=>Mo (aq v) h0 w/\gf w (v,1,xs.reverse.flatMap cq):=by
 rcases z with⟨g,j⟩|⟨b,n,g,j,t⟩
 . simp only []at g j;subst g;have:xs=[]:=by
    cases xs with
    |nil=>rfl|cons a l=>simp [cq]at j
   subst this;have S:=Si u;refine aa (n:=28) (rs:=[]) rfl Tryz.e138 rfl rfl rfl (lbt rfl) ?_;simp only [BZ,Xc,seval];rw [cE];have A:am .i64 (-1)= -1:=rfl;have B: ¬((0:Int)< -1):=(by omega);simp only [BZ,A,B,seval];exact⟨S.gr.fr,.inl ⟨rfl,rfl⟩⟩
 . simp only []at g j t;subst g;have C:n=xs.length:=(by rw [uZ]at j;omega);subst C;rw [rvC_zero]at t;have S:=St.init1 u (o:=.row _ 1) t;have D:am .i64 ((xs.length:Int)-1)=(xs.length:Int)-1:=(by rw [wrap64]<;>omega);refine aa (n:=28) (rs:=[]) rfl Tryz.e138 rfl rfl rfl (lbt rfl) ?_;simp only [BZ,D,seval];refine aV (fun(k:Nat) r h=>2*k<=xs.length/\St (· =b) h0 h [(b,.row (rvC xs.length k fun p=>.int .i64 (xs.getD p 0:Nat)) 1)] []/\r 0=.slice (some ⟨b,0,some 1⟩) xs.length xs.length/\r 2=.int .i64 (k:Nat)/\r 3=.int .i64 ((xs.length:Int)-1-k)) (fun k=>xs.length-k) ?_ 0 _ _ ?_
   . clear S;intro k E r N ⟨hk,S,r0,r2,r3⟩;by_cases hlt:2*k+1<xs.length
     . have s:(k:Int)<(xs.length:Int)-1-k:=(by omega);have e:k<xs.length:=(by omega);have d:xs.length-1-k<xs.length:=(by omega);have F:(xs.length:Int)-1-k=((xs.length-1-k:Nat):Int):=(by omega);have G:am .i64 ((k:Int)+1)=((k+1:Nat):Int):=(by rw [wrap64]<;>omega);have H:am .i64 (((xs.length-1-k:Nat):Int)-1)=(xs.length:Int)-1-(k+1:Nat):=(by rw [wrap64]<;>omega);have x:=(S.row (b:=b) m0).load1 (qT e);have y:=(S.row (b:=b) m0).load1 (qT d);rw [if_neg (by omega)]at x y;rw [F]at r3 s;simp only [BZ,r2,r3,s,seval];refine ar (ax rfl) (q:=0) (ps:=[]) (by kernel_rfl) ?_;simp only [BZ,cls,r0,r2,r3,e,d,x,y,seval];refine df (aA S (i:=0) rfl Tryz.t3.2.2.1 bR (by rw [mU];exact e) ono) ?_;clear S;rintro O ⟨S,I⟩;simp only [LC]at S;simp only [BZ,cls,d,seval];refine df (aA S (i:=0) rfl Tryz.t3.2.2.1 bR (by rw [Xh,mU];exact d) ono) ?_;clear S;rintro P ⟨S,J⟩;simp only [LC]at S;have K:=rvC_step (f:=fun p=>.int .i64 (xs.getD p 0:Nat)) hlt;rw [K]at S;simp only [BZ,r2,r3,G,H,seval];exact E (k+1) _ _ (by omega) ⟨by omega,S,by simp [aw,r0]⟩
     . have s: ¬(k:Int)<(xs.length:Int)-1-k:=(by omega);simp only [BZ,r2,r3,s,seval];have m:=S.row m0;rw [rvC_done (by omega) hk]at m;exact⟨S.fr.mono (fun c L=>Eq.symm L),.inr ⟨b,xs.length,rfl,by show xs.length*1=(xs.reverse.flatMap cq).length;rw [uZ,List.length_reverse];omega,m⟩⟩
   . exact⟨by omega,S,by simp [aw,cD]⟩
def fD(l:List Nat):List Value:=l.map fun(x:Nat)=>.int .i64 x
theorem tO(l:List Nat):l.flatMap cq=fD l:=by unfold fD;rw [Xf,XD,Xf];rfl
theorem nI(l:List Nat):(fD l).length=l.length:=by simp [fD]
theorem natM_at{l:List Nat}{i:Nat}(h:i<l.length):(fD l)[i]? =some (.int .i64 (l.getD i 0:Nat)):=by unfold fD;rw [Xo,Xb h];simp [Xa,h]
theorem zk(l:List Nat)(i x:Nat):(fD l).set i (.int .i64 (x:Nat))=fD (l.set i x):=by unfold fD;rw [Yd]
end Go.Ab
end
section
namespace Go.Ab
def swJ(l:List Nat)(j:Nat):List Nat:=(l.set j (l.getD (j-1) 0)).set (j-1) (l.getD j 0)
def bub(key:Nat->Int):Nat->List Nat->List Nat
 |0,l=>l|j+1,l=>if key (l.getD j 0)<key (l.getD (j+1) 0)then bub key j (swJ l (j+1))else l
def jk(key:Nat->Int)(k:Nat)(l:List Nat):List Nat:=(XB k).foldl (fun l i=>bub key (i+1) l) l
theorem qJ(key:Nat->Int)(k:Nat)(l:List Nat):jk key (k+1) l=bub key (k+1) (jk key k l):=by unfold jk;rw [List.range_succ,List.foldl_append];rfl
theorem swJ_len(l:List Nat)(j:Nat):(swJ l j).length=l.length:=by simp [swJ]
theorem zi{l:List Nat}{j:Nat}(h:j<l.length):(swJ l j).Perm l:=by have:((l.set j l[j-1]).set (j-1) l[j]).Perm l:=List.set_set_perm h (by omega);unfold swJ;rwa [show l.getD (j-1) 0=l[j-1] by simp [Xa,show j-1<l.length by omega],show l.getD j 0=l[j] by simp [Xa,h]]
theorem za{key:Nat->Int}: ∀(j:Nat) {l:List Nat},j<l.length->(bub key j l).Perm l
 |0,l,_=>.refl _| j+1,l,h=>by
   unfold bub
   split
   . exact(za j (by rw [swJ_len];omega)).trans (zi h)
   . exact .refl _
theorem qF{key:Nat->Int}{l:List Nat}: ∀(k:Nat),k<l.length\/k=0->(jk key k l).Perm l
 |0,_=>.refl _| k+1,h=>by have a:=qF (key:=key) (l:=l) k (by omega);rw [qJ];exact(za (k+1) (by rw [a.length_eq];omega)).trans a
end Go.Ab

end
section
namespace Go.Ab
open Go.Proofs
set_option maxRecDepth 10000
theorem A2{a b:Int}:lH a b<0↔a<b:=by
 unfold lH
 split
 . omega
 . split<;>omega
def CmpF(E:Env)(hq:Hp)(g:FuncId)(post:List Value)(N:Nat)(key:Nat->Int):Prop:= ∀h,Gr hq h-> ∀i j,i<N->j<N->aN E g ([.int .i64 (i:Nat),.int .i64 (j:Nat)]++post) h (.int .i64 (lH (key j) (key i)))
theorem Ca {hq h0:Hp} (z:Gr hq h0) {b N:Nat} {xs:List Nat} {g:FuncId} {post:Array Value} {key:Nat->Int} (p:Row h0 b (fD xs) 1) (R:hq.n<=b) (T:xs.length<=20) (A: ∀x∈xs,x<N) (G:CmpF zM hq g post.toList N key):
 Ret zM 270 [.slice (some ⟨b,0,some 1⟩) xs.length xs.length,.int .i64 0,.int .i64 (xs.length:Nat),.func (.func g) #[] post] h0 fun _ B=>Mo (· =b) h0 B/\Row B b (fD (jk key (xs.length-1) xs)) 1:=by
 have H:=z.ok;have S:=St.init1 H (o:=.row _ 1) p;have U:am .i64 (0+1)=((0+1:Nat):Int):=rfl;refine aa (n:=53) (rs:=[]) rfl Tryz.e270 rfl rfl rfl (lbt rfl) ?_;simp only [BZ,seval];refine aV (fun(i:Nat) a h=>i<=xs.length-1/\St (· =b) h0 h [(b,.row (fD (jk key i xs)) 1)] []/\a 0=.slice (some ⟨b,0,some 1⟩) xs.length xs.length/\a 1=.int .i64 0/\a 2=.int .i64 (xs.length:Nat)/\a 3=.func (.func g) #[] post/\a 8=.int .i64 ((i+1:Nat):Int)) (fun i=>xs.length-i) ?_ 0 _ _ ?_
 . clear S;intro i C a h ⟨hi,S,r0,r1,r2,r3,r8⟩;by_cases hlt:i+1<xs.length
   . simp only [BZ,r2,r8,az,hlt,seval];have r:=qF (key:=key) (l:=xs) i (.inl (by omega));refine aV (fun(j:Nat) a h=>j<=i+1/\ ∃l,l.Perm xs/\bub key j l=bub key (i+1) (jk key i xs)/\St (· =b) h0 h [(b,.row (fD l) 1)] []/\a 0=.slice (some ⟨b,0,some 1⟩) xs.length xs.length/\a 1=.int .i64 0/\a 2=.int .i64 (xs.length:Nat)/\a 3=.func (.func g) #[] post/\a 8=.int .i64 ((i+1:Nat):Int)/\a 9=.int .i64 (j:Nat)) (fun j=>j) ?_ (i+1) _ _ ?_
     . clear S r0 r1 r2 r3 r8;intro j s a h ⟨hj,l,pm,hbub,S,r0,r1,r2,r3,r8,r9⟩;have V:=pm.length_eq;have D:am .i64 (((i+1:Nat):Int)+1)=((i+1+1:Nat):Int):=(by rw [wrap64]<;>omega);by_cases I:0<j
       . obtain⟨k,rfl⟩: ∃k,j=k+1:=⟨j-1,by omega⟩;have E:(0:Int)<((k+1:Nat):Int):=(by omega);have t:am .i64 (((k+1:Nat):Int)-1)=(k:Int):=(by rw [wrap64]<;>omega);have F:k+1<xs.length:=(by omega);have u:k<xs.length:=(by omega);have d:=(S.row (b:=b) m0).load1 (natM_at (i:=k+1) (by omega));have f:=(S.row (b:=b) m0).load1 (natM_at (i:=k) (by omega));have J:l.getD (k+1) 0<N:=(by refine A _ (pm.mem_iff.1 ?_);rw [Xa,Xb (by omega)];exact Xy _);have K:l.getD k 0<N:=(by refine A _ (pm.mem_iff.1 ?_);rw [Xa,Xb (by omega)];exact Xy _);simp only [BZ];refine ar (ax rfl) (q:=0) (ps:=[]) (by kernel_rfl) ?_;simp only [BZ,cls,r0,r1,r3,r9,E,t,F,u,d,f,seval];refine bM (G _ (((z.fr (M:=NoM)).trans S.fr (fun c e=>.inr (by omega))).gr) _ _ J K) ?_;intro h v;replace S:=S.call v;by_cases m:key (l.getD k 0)<key (l.getD (k+1) 0)
         . have w:lH (key (l.getD k 0)) (key (l.getD (k+1) 0))<0:=A2.2 m;replace d:=v.load d;replace f:=v.load f;simp only [BZ,cls,w,seval];refine ar (ax rfl) (q:=0) (ps:=[]) (by kernel_rfl) ?_;simp only [BZ,cls,r0,r9,t,F,u,d,f,seval];refine df (aA S (i:=0) rfl Tryz.t3.2.2.1 bR (by rw [nI];omega) ono) ?_;clear S;rintro W ⟨S,L⟩;simp only [LC]at S;simp only [BZ,cls,u,seval];refine df (aA S (i:=0) rfl Tryz.t3.2.2.1 bR (by rw [Xh,nI];omega) ono) ?_;clear S;rintro X ⟨S,O⟩;simp only [LC]at S;rw [zk,zk]at S;simp only [BZ,r9,t,seval];have e:bub key (k+1) l=bub key k (swJ l (k+1)):=(by show(if _ then _ else _)=_;rw [if_pos m]);exact s k _ _ (by omega) ⟨by omega,swJ l (k+1),(zi (by omega)).trans pm,by rw [<-e];exact hbub,S,by simp [aw,r0,r1,r2,r3,r8]⟩
         . have w: ¬lH (key (l.getD k 0)) (key (l.getD (k+1) 0))<0:=fun h=>m (A2.1 h);have e:bub key (k+1) l=l:=(by show(if _ then _ else _)=_;rw [if_neg m]);rw [e]at hbub;simp only [BZ,cls,r8,w,D,seval];exact C (i+1) _ _ (by omega) ⟨by omega,by rw [qJ,<-hbub];exact S,by simp [aw,r0,r1,r2,r3]⟩
       . have P:j=0:=(by omega);subst P;have y:l=bub key (i+1) (jk key i xs):=hbub;have E: ¬(0:Int)<((0:Nat):Int):=(by omega);simp only [BZ];refine ar (ax rfl) (q:=0) (ps:=[]) (by kernel_rfl) ?_;simp only [BZ,cls,Xc,r1,r8,r9,D,seval];exact C (i+1) _ _ (by omega) ⟨by omega,by rw [qJ,<-y];exact S,by simp [aw,r0,r1,r2,r3]⟩
     . exact⟨XA _,_,r,rfl,S,by simp [aw,r0,r1,r2,r3,r8]⟩
   . simp only [BZ,r2,r8,az,hlt,seval];have Q:i=xs.length-1:=(by omega);subst Q;exact⟨S.fr,S.row m0⟩
 . exact⟨XI _,S,by simp [aw,dh],by simp [aw,dh],by simp [aw,dh],by simp [aw,dh],by simp [aw];rfl⟩
theorem stable_ok{hq h0:Hp}(c:Gr hq h0){b N:Nat}{xs:List Nat}{g:FuncId}{post:Array Value}{key:Nat->Int}(a:Row h0 b (fD xs) 1)(e:hq.n<=b)(o:xs.length<20)(i: ∀x∈xs,x<N)(j:CmpF zM hq g post.toList N key):
 Ret zM 247 [.slice (some ⟨b,0,some 1⟩) xs.length xs.length,.int .i64 (xs.length:Nat),.func (.func g) #[] post] h0 fun _ d=>Mo (· =b) h0 d/\Row d b (fD (jk key (xs.length-1) xs)) 1:=by
 have k:=c.ok;have l: ¬(20:Int)<=(xs.length:Int):=by omega
 have m: ¬(20:Int)<(xs.length:Int):=by omega
 have S:=Si k;refine aa (n:=63) (rs:=[]) rfl Tryz.e247 rfl rfl rfl (lbt rfl) ?_;simp only [BZ,seval];rw [cE];simp only [BZ,l,seval];refine step_ret (Ca c a e (by omega) i j) ?_;rintro r h ⟨f,R⟩;simp only [BZ];rw [cE];simp only [BZ,m,seval];exact⟨f,R⟩
theorem yO{hq h0:Hp}(d:Gr hq h0){b N:Nat}{xs:List Nat}{g:FuncId}{post:Array Value}{key:Nat->Int}(a:Row h0 b (fD xs) 1)(e:hq.n<=b)(f:xs.length<20)(i: ∀x∈xs,x<N)(j:CmpF zM hq g post.toList N key):
 Ret zM 194 [.slice (some ⟨b,0,some 1⟩) xs.length xs.length,.func (.func g) #[] post] h0 fun _ c=>Mo (· =b) h0 c/\Row c b (fD (jk key (xs.length-1) xs)) 1:=by
 refine aa (n:=9) (rs:=[]) rfl Tryz.e194 rfl rfl rfl (lbt rfl) ?_;simp only [BZ,seval];refine step_ret (stable_ok d a e f i j) ?_;rintro r h q;simp only [BZ];exact q
theorem As{h0:Hp}(k:h0.t.Sized h0.n){v:Value}{xs:List Nat}(l:av h0 1 cq v xs)(x:xs.length<1000000)(f:xs≠ []):Ret zM 84 [v] h0 fun r d=>Gr h0 d/\ ∃b,r=.slice (some ⟨b,0,some 1⟩) xs.length xs.length/\Row d b (fD xs) 1/\h0.n<=b:=by
 have S:=Si k;rcases l with⟨_,rfl⟩|⟨b,o,s,c,rfl,m,p⟩
 . exact absurd rfl f
 . refine aa (n:=8) (rs:=[.tmp 2]) rfl Tryz.e84 rfl rfl rfl (lbt rfl) ?_;simp only [BZ,seval];refine ac (bV (by exact Tryz.t41.1) (by exact XJ) (by decide) (by rfl)) S ?_;clear S;intro h y S i;simp only [LC,a9,bQ,ae,Xv,Xl,Xn,XC,seval]at S;simp only [BZ,seval];have q:=S.fr.n;refine dP (S.cloneW (enc:=cq) (ys:=xs) Tryz.t41.1 XJ (by decide) Tryz.t41.2.2.2.2.2 (.inr ⟨b,o,s,c,rfl,m,S.old p (fun h=>h)⟩) dV (by decide) (by omega) (S.row m0)) ?_;rintro d v ⟨t,g,z,u,w⟩;obtain⟨j,rfl,a⟩:=w f;simp only [BZ,ab,seval];rw [tO]at a;exact⟨t.gr,j,rfl,a,(u j rfl).elim (fun e=>by omega) (fun e=>Xj q e)⟩
theorem first_ok{hq h0:Hp}(j:Gr hq h0){N:Nat}{v:Value}{xs:List Nat}{g:FuncId}{post:Array Value}{key:Nat->Int}(u:av h0 1 cq v xs)(d:xs≠ [])(w:xs.length<20)(y: ∀x∈xs,x<N)(i:CmpF zM hq g post.toList N key){m:Nat}(D:1<=m):
 Ret zM 112 [v,.int .i64 (m:Nat),.func (.func g) #[] post] h0 fun r q=>Gr h0 q/\av q 1 cq r ((jk key (xs.length-1) xs).take (min m xs.length))/\ ∀c,aq r c->h0.n<=c:=by
 have z:=j.ok;have A:min (m:Int) (xs.length:Int)=((min m xs.length:Nat):Int):=by omega
 have s:=qF (key:=key) (l:=xs) (xs.length-1) (by cases xs with|nil=>exact absurd rfl d|cons a l=>simp);have S:=Si z;refine aa (n:=18) (rs:=[.tmp 6]) rfl Tryz.e112 rfl rfl rfl (lbt rfl) ?_;simp only [BZ,seval];refine step_ret (As S.ok u (by omega) d) ?_;rintro r h ⟨t,b,rfl,k,B⟩;have o:hq.n<=b:=Xj j.n B;simp only [BZ,seval];refine step_ret (yO (j.trans t) k o w y i) ?_;rintro r E ⟨f,R⟩;have C:=Ar (kd:=.i64) (b:=b) (len:=xs.length) (n:=min m xs.length) Tryz.t41.1 Tryz.t3.2.2.1 (cap:=xs.length) (Nat.min_le_right _ _);simp only [BZ,ab,Xz,XL,A,C,seval];refine⟨((t.fr (M:=NoM)).trans f (fun c e=>.inr (by omega))).gr,?_,fun c i=>by have i:b=c:=i;omega⟩;have p:((jk key (xs.length-1) xs).take (min m xs.length)).length=min m xs.length:=by rw [Xw,s.length_eq];omega
 refine .inr ⟨b,0,some 1,xs.length,by rw [p],by rw [p];exact Nat.min_le_right _ _,?_⟩;rw [p,R.load (by rw [nI,s.length_eq];omega),tO,XO,Xn];unfold fD;rw [List.map_take]
theorem rep64_ok{h0:Hp}(u:h0.t.Sized h0.n){v:Value}{x:Int}{N:Nat}(y:av h0 1 (encI .i64) v [x])(a:1<=N)(z:N<1000):Ret zM 239 [v,.int .i64 N] h0 fun r p=>Gr h0 p/\ ∃b,r=.slice (some ⟨b,0,none⟩) N N/\h0.n<=b/\Row p b (zO N (.int .i64 x)) 1:=by
 have S:=Si u;have A: ¬((N:Int)<0):=by omega
 have B: ¬((9223372036854775807:Int)<(N:Int)):=by omega
 have C:am .u64 (N:Int)=(N:Int):=wQ (by omega) (by omega);have D:am .u64 1=1:=rfl;have E:am .i64 (N:Int)=(N:Int):=by rw [wrap64]<;>omega
 obtain⟨K,L,M,O,rfl,F,G⟩: ∃b o s c,v=.slice (some ⟨b,o,s⟩) 1 c/\1<=c/\h0.load b o 1=some [.int .i64 x]:=by
  rcases y with⟨_,h⟩|⟨b,o,s,c,rfl,H,I⟩
  . cases h
  . exact⟨b,o,s,c,rfl,H,I⟩
 refine aa (n:=48) (rs:=[.tmp 4]) rfl Tryz.e239 rfl rfl rfl (lbt rfl) ?_;simp only [BZ,iV,cH,iZ,Xc,A,C,D,seval];refine ag (mul_ok S.ok z) ?_;intro h g;replace S:=S.call g;clear g;simp only [BZ,iV,cH,iZ,B,E,seval];refine ac (kH (by exact Tryz.t23.1) (by exact Tryz.e2E) (by omega) (by omega)) S ?_;clear S;intro h j S d;rw [XH,mP]at S;simp only [BZ,XH,seval];refine dP (S.copyO (i:=0) (l:=zO 1 (.int .i64 x)) rfl Tryz.t23.1 Tryz.t2.2.2.1 (by rw [jN a];decide) (by rw [jN a];exact S.old G (fun h=>h)) (by simp;omega) rfl) ?_;clear S;rintro h w ⟨rfl,S⟩;simp only [LC]at S;rw [show zO N (Value.int .i64 0)=zO 0 (.int .i64 x)++zO N (.int .i64 0) by simp,ti a]at S;rw [jN a];simp only [BZ,Xc,seval];refine aV (fun(n:Nat) m h=>1<=n/\n<=N/\St NoM h0 h [(j,.row (zO n (.int .i64 x)++zO (N-n) (.int .i64 0)) 1)] []/\m 7=.slice (some ⟨j,0,none⟩) N N/\m 8=.int .i64 n) (fun n=>N-n) ?_ 1 _ _ ?_
 . clear S;intro n J m h ⟨hn1,hn,S,r7,r8⟩;by_cases hlt:n<N
   . simp only [BZ,r7,r8,az,hlt,seval];refine ar (ax rfl) (q:=0) (ps:=[]) (by kernel_rfl) ?_;simp only [BZ,cls,Xz,XL,r7,r8,zF Tryz.t23.1 Tryz.t2.2.2.1 hlt,yJ Tryz.t23.1 Tryz.t2.2.2.1 (Yc hlt),seval];have t:0<dA n (N-n):=by
      rcases XU n (N-n)with h|h
      . rw [jN h];omega
      . rw [tK h];omega
     have f:dA n (N-n)<=N-n/\dA n (N-n)<=n:=by
      rcases XU n (N-n)with h|h
      . rw [jN h];omega
      . rw [tK h];omega
     refine dn_v (S.copyO (i:=0) (l:=zO (dA n (N-n)) (.int .i64 x)) rfl Tryz.t23.1 Tryz.t2.2.2.1 t ?_ (by simp;omega) (by simp;right;rfl)) ?_
     . rw [(S.row m0).load (by simp;omega),Xn,XO];congr 1;rw [XM (by simp;omega),X8];congr 1;omega
     clear S;rintro h w ⟨rfl,S⟩;simp only [LC]at S;rw [ti f.1]at S;generalize dA n (N-n)=k at S t f;have w:am .i64 ((n:Int)+(k:Int))=((n+k:Nat):Int):=(by rw [wrap64]<;>omega);simp only [BZ,cls,w,seval];exact J (n+k) _ _ (by omega) ⟨by omega,by omega,by rw [show N-(n+k)=N-n-k by omega];exact S,by simp [aw,r7]⟩
   . simp only [BZ,ab,r7,r8,az,hlt,seval];have e:n=N:=(by omega);subst e;have R:=S.row (b:=j) m0;rw [Ya,X9,XE]at R;exact⟨S.gr,j,rfl,d,R⟩
 . exact⟨XA _,a,by simpa using S,by simp [aw]⟩
theorem repI_ok{h0:Hp}(u:h0.t.Sized h0.n){v:Value}{x:Int}{N:Nat}(y:av h0 1 (encI .i64) v [x])(a:1<=N)(z:N<1000):Ret zM 197 [v,.int .i64 N] h0 fun r p=>Gr h0 p/\ ∃b,r=.slice (some ⟨b,0,none⟩) N N/\h0.n<=b/\Row p b (zO N (.int .i64 x)) 1:=by
 have S:=Si u;have A: ¬((N:Int)<0):=by omega
 have B: ¬((9223372036854775807:Int)<(N:Int)):=by omega
 have C:am .u64 (N:Int)=(N:Int):=wQ (by omega) (by omega);have D:am .u64 1=1:=rfl;have E:am .i64 (N:Int)=(N:Int):=by rw [wrap64]<;>omega
 obtain⟨K,L,M,O,rfl,F,G⟩: ∃b o s c,v=.slice (some ⟨b,o,s⟩) 1 c/\1<=c/\h0.load b o 1=some [.int .i64 x]:=by
  rcases y with⟨_,h⟩|⟨b,o,s,c,rfl,H,I⟩
  . cases h
  . exact⟨b,o,s,c,rfl,H,I⟩
 refine aa (n:=48) (rs:=[.tmp 4]) rfl Tryz.e197 rfl rfl rfl (lbt rfl) ?_;simp only [BZ,iV,cH,iZ,Xc,A,C,D,seval];refine ag (mul_ok S.ok z) ?_;intro h g;replace S:=S.call g;clear g;simp only [BZ,iV,cH,iZ,B,E,seval];refine ac (kH (by exact Tryz.t41.1) (by exact XJ) (by omega) (by omega)) S ?_;clear S;intro h j S d;rw [XH,mP]at S;simp only [BZ,XH,seval];refine dP (S.copyO (i:=0) (l:=zO 1 (.int .i64 x)) rfl Tryz.t41.1 Tryz.t3.2.2.1 (by rw [jN a];decide) (by rw [jN a];exact S.old G (fun h=>h)) (by simp;omega) rfl) ?_;clear S;rintro h w ⟨rfl,S⟩;simp only [LC]at S;rw [show zO N (Value.int .i64 0)=zO 0 (.int .i64 x)++zO N (.int .i64 0) by simp,ti a]at S;rw [jN a];simp only [BZ,Xc,seval];refine aV (fun(n:Nat) m h=>1<=n/\n<=N/\St NoM h0 h [(j,.row (zO n (.int .i64 x)++zO (N-n) (.int .i64 0)) 1)] []/\m 7=.slice (some ⟨j,0,none⟩) N N/\m 8=.int .i64 n) (fun n=>N-n) ?_ 1 _ _ ?_
 . clear S;intro n J m h ⟨hn1,hn,S,r7,r8⟩;by_cases hlt:n<N
   . simp only [BZ,r7,r8,az,hlt,seval];refine ar (ax rfl) (q:=0) (ps:=[]) (by kernel_rfl) ?_;simp only [BZ,cls,Xz,XL,r7,r8,zF Tryz.t41.1 Tryz.t3.2.2.1 hlt,yJ Tryz.t41.1 Tryz.t3.2.2.1 (Yc hlt),seval];have t:0<dA n (N-n):=by
      rcases XU n (N-n)with h|h
      . rw [jN h];omega
      . rw [tK h];omega
     have f:dA n (N-n)<=N-n/\dA n (N-n)<=n:=by
      rcases XU n (N-n)with h|h
      . rw [jN h];omega
      . rw [tK h];omega
     refine dn_v (S.copyO (i:=0) (l:=zO (dA n (N-n)) (.int .i64 x)) rfl Tryz.t41.1 Tryz.t3.2.2.1 t ?_ (by simp;omega) (by simp;right;rfl)) ?_
     . rw [(S.row m0).load (by simp;omega),Xn,XO];congr 1;rw [XM (by simp;omega),X8];congr 1;omega
     clear S;rintro h w ⟨rfl,S⟩;simp only [LC]at S;rw [ti f.1]at S;generalize dA n (N-n)=k at S t f;have w:am .i64 ((n:Int)+(k:Int))=((n+k:Nat):Int):=(by rw [wrap64]<;>omega);simp only [BZ,cls,w,seval];exact J (n+k) _ _ (by omega) ⟨by omega,by omega,by rw [show N-(n+k)=N-n-k by omega];exact S,by simp [aw,r7]⟩
   . simp only [BZ,ab,r7,r8,az,hlt,seval];have e:n=N:=(by omega);subst e;have R:=S.row (b:=j) m0;rw [Ya,X9,XE]at R;exact⟨S.gr,j,rfl,d,R⟩
 . exact⟨XA _,a,by simpa using S,by simp [aw]⟩
def py(A:List Arc)(f:Arc->Nat)(a:List Nat):List (List Value):=a.map fun(id:Nat)=>[.int .i64 id,.agg ⟨dw ⟨0,f (A.getD id default),(A.getD id default).w⟩⟩]
theorem arcs_ok'{h0:Hp}(i:h0.t.Sized h0.n){p f g:Value}(j:Fl p)(k:Fl f)(l:Fl g):Ret zM 240 [p,f,g] h0 fun v e=>Gr h0 e/\ ∃b1 b2 a,v=.func (.func 264) #[] #[ptrTo b1,ptrTo b2,ptrTo a]/\h0.n<=b1/\h0.n<=b2/\h0.n<=a/\e.load b1 0 1=some [f]/\e.load b2 0 1=some [p]/\e.load a 0 1=some [g]:=by have S:=Si i;refine aa (n:=8) (rs:=[.tmp 6]) rfl Tryz.e240 rfl rfl rfl (lbt rfl) ?_;simp only [BZ,seval];refine ac (bW (by assumption)) S ?_;clear S;intro h b2 S b;simp only [BZ,if_false,seval];refine ac (bW (by assumption)) S ?_;clear S;intro h b1 S c;simp only [BZ,if_false,seval];refine ac (bW (by assumption)) S ?_;clear S;intro h a S d;simp only [BZ,ab,seval];exact⟨S.gr,b1,b2,a,rfl,c,b,d,S.ld m1 rfl,S.ld m2 rfl,S.ld m0 rfl⟩
theorem arcs_it{hq h0:Hp}(E:hq.t.Sized hq.n)(l:h0.t.Sized h0.n)(P:eP hq h0)(Q:hq.n<=h0.n){p t:Value}{k:Gra}{I b1 b2 u:Nat}(R:aX hq I p k){d:List Nat}(K:av h0 1 cq t d)(y: ∀id∈d,id<k.arcs.length)(L:d.length<1000){g:FuncId}{f:Arc->Nat}(T:KeyF zM g f)
 (U:h0.load b1 0 1=some [t]) (V:h0.load b2 0 1=some [p]) (W:h0.load u 0 1=some [.func (.func g) #[] #[]]):
 mi zM 264 [] [ptrTo b1,ptrTo b2,ptrTo u] h0 (fun c=>c=b1\/c=b2\/c=u\/aq t c\/c<hq.n) (py k.arcs f d):=by
 intro X J Z hz Y h F s C;refine enter (n:=32) (rs:=[]) rfl Tryz.e264 rfl rfl rfl (lbt rfl) ?_;have M:=s.load l U (.inl rfl);simp only [BZ,M,K.lenq,seval];refine aV (fun(i:Nat) m h=>i<=d.length/\ ∃F,ItS h0 (fun c=>c=b1\/c=b2\/c=u\/aq t c\/c<hq.n) h F/\J i h F/\m 0=.func (.yield X) #[] #[]/\m 1=ptrTo b1/\m 2=ptrTo b2/\m 3=ptrTo u/\m 9=t/\m 10=.int .i64 d.length/\m 11=.int .i64 i) (fun i=>d.length-i) ?_ 0 _ _ ?_
 . clear M;intro i ih m h ⟨hi,F,s,C,r0,r1,r2,r3,r9,r10,r11⟩;by_cases hlt:i<d.length
   . obtain⟨c,o,z,G⟩:=(s.sl l K (fun b h=>.inr (.inr (.inr (.inl h))))).ix (kd:=.i64) dV hlt;have l2:=s.load l V (.inr (.inl rfl));have l3:=s.load l W (.inr (.inr (.inl rfl)));have A:=y _ (Xy hlt);have nt:aX h I p k:=R.keep E (s.keep P Q (fun c hc=>.inr (.inr (.inr (.inr hc)))));have w:am .i64 ((i:Int)+1)=((i+1:Nat):Int):=(by rw [wrap64]<;>omega);have S:=Si s.ok;simp only [BZ,r2,r9,r10,r11,az,hlt,z,G,cq,l2,seval];refine step_ret (lU S.ok nt A) ?_;rintro v h2 ⟨r,rfl⟩;replace S:=S.call r;clear r;simp only [BZ,seval];refine ac ay S ?_;clear S;intro h H S N;simp only [BZ,dw,seval];refine aC (S.store (i:=0) rfl ?_ ?_ rfl rfl ?_ ono) ?_
     . exact(by exact Tryz.t139.2.1)
     . exact(by intro x e;cases e)
     . exact lbt rfl
     clear S;rintro h ⟨S,mo⟩;clear mo;simp only [LC,ae,lay,Xp,Xq,seval]at S;simp only [BZ,seval];refine ar (ax rfl) (q:=0) (ps:=[(4,6)]) (by kernel_rfl) ?_;simp only [BZ,cls,r0,r3,S.old l3 (fun h=>h),S.lds (b:=H) (o:=0) (n:=3) m0 (lbt rfl),seval];have B:=(S.row (b:=H) m0).lt S.ok;refine bM (T _ k.arcs[d[i]] S.ok) ?_;intro O r;have D:=ao r B;replace S:=S.call r;clear r;simp only [BZ,cls,S.ld (b:=H) (o:=2) m0 rfl,seval];have gd:k.arcs.getD d[i] default=k.arcs[d[i]]:=(by simp [Xa,A]);have hx:(py k.arcs f d)[i]? =some [.int .i64 (d[i]:Nat),.agg ⟨[.int .i64 0,.int .i64 (f k.arcs[d[i]]:Nat),.int .i64 (k.arcs[d[i]].w:Nat)]⟩]:=(by unfold py;rw [Xo,Xb hlt];simp only [Xz,gd];rfl);refine dn_yield hz Y (s.gr S.gr) (Y.gr _ _ _ _ C S.gr) (j:=i) hx ?_ ?_
     . intro O F' a s' _ _;simp only [BZ,cls,r11,w,seval];refine⟨by simp only [aK,aS,aH,aU,aJ,ne_eq,not_false_eq_true,aW,aZ,aT,aM,bA,ca,aD,XQ,r0,r1,r2,r3,ah,aF D,aB D,seval],?_⟩;exact ih (i+1) _ _ (by omega) ⟨by omega,F',s',a,by simp [aw,r0,r1,ah,r2,r3,r9,r10]⟩
     . intro O a _;simp only [BZ,cls,seval];refine⟨by simp only [aK,aS,aH,aU,aJ,ne_eq,not_false_eq_true,aW,aZ,aT,aM,bA,ca,aD,XQ,r0,r1,r2,r3,ah,aF D,aB D,seval],?_⟩;exact gy rfl ⟨rfl,.inr (.inl ⟨_,rfl,a⟩)⟩
   . simp only [BZ,r10,r11,az,hlt,seval];have:i=d.length:=(by omega);subst this;exact cy (cJ ⟨rfl,_,rfl,rfl,.inl ⟨_,F,rfl,by simpa [py]using C⟩⟩)
 . exact⟨by omega,F,s,C,by simp [aw,dh,ah]⟩
theorem ints_set(l:List Int)(i:Nat)(x:Int):(ints l).set i (.int .i64 x)=ints (l.set i x):=by
 have e4: ∀l:List Int,ints l=l.map fun x=>Value.int .i64 x:=fun l=>by unfold ints;rw [Xf,XD,Xf];rfl
 rw [e4,e4,Yd]
theorem reach_ok{h0:Hp}(ok:h0.t.Sized h0.n){D d I c N v arc far:Nat}{p V vO:Value}{F:List Nat}{K:Nat->Option Int}{O:List Nat}{W:List (Value×Value×Nat)}{f:Int->Option Value}{j:List Int}
 (R:Row h0 D [p,V,.slice (some ⟨d,0,none⟩) N N,vO,.map (some I)] 1) (H:dr h0 F p N K) (hN:N<=1000) (a:h0.get I=some (.map W c)) (MI:d6 W c f) (CF:ClF O f) (t:Row h0 d (ints j) 1) (E:j.length=N) (J:v<N)
 (T:d∉F) (d2:D∉F) (d3:D≠d):
 Ret zM 241 [ptrTo D,.int .i64 v,.int .i64 arc,.int .i64 far] h0 fun _ X=>Mo (fun c=>c∈F\/c=d) h0 X/\ ∃F' m,dr X F' p N (je O K v far)/\(∀b∈F',b∈F\/h0.n<=b)/\Row X d (ints m) 1/\m.length=N/\((je O K v far=K/\m=j)\/(v∉O/\je O K v far=c8 K v (some (far:Int))/\m=j.set v arc)):=by
 have S:=Si ok;have ad:=t.lt ok;have L:=R.load1 (o:=0) rfl;have G:=R.load1 (o:=4) rfl;have l2:=R.load1 (o:=2) rfl;have pp: ∃b,p=ptrTo b:=by obtain⟨b,_,_,e,_⟩:=H.ex;exact⟨b,e⟩
 obtain⟨bp,rfl⟩:=pp;refine aa (n:=59) (rs:=[]) rfl Tryz.e241 rfl rfl rfl (lbt rfl) ?_;simp only [BZ,L,seval];refine ag (xf S.ok H) ?_;intro h g;replace S:=S.call g;clear g;replace a:h.get I=some (.map W c):=S.gr.at a;have U:=H.gr S.gr;have y:=qR (x:=(v:Int)) Tryz.t232.1 Tryz.t3.1 (z:=.int .i64 0) (by kernel_rfl) a MI;rw [CF v]at y;replace L:=S.old L (fun h=>h);replace G:=S.old G (fun h=>h);replace l2:=S.old l2 (fun h=>h);replace t:Row h d (ints j) 1:=t.gr S.gr;have R1:=R.gr S.gr;have u:=S.gr;by_cases q:v∈O
 . rw [if_pos q,Xs]at y;simp only [BZ,G,y,seval];exact⟨u.fr,F,j,by unfold je;rw [if_pos q];exact U,fun b l=>.inl l,t,E,.inl ⟨by unfold je;rw [if_pos q],rfl⟩⟩
 . rw [if_neg q,Xx]at y;have af:=t.lt u.ok;cases M:K v with
   | none=>
     have w:je O K v far=c8 K v (some (far:Int)):=(by unfold je;rw [if_neg q,M]);simp only [BZ,L,G,y,Xx,Xk,seval];refine step_ret (qE u.ok U J hN M) ?_;rintro r A ⟨s,F',Y,P⟩;have B:Row A d (ints j) 1:=s.has (o:=.row _ 1) t T;have Z:Row A D [ptrTo bp,V,.slice (some ⟨d,0,none⟩) N N,vO,.map (some I)] 1:=s.has (o:=.row _ 1) R1 d2;have C:=Z.load1 (o:=2) rfl;have S:=St.init1 s.ok (o:=.row _ 1) B;simp only [BZ,C,J,seval];refine aC (aA S (i:=0) rfl Tryz.t3.2.2.1 bR (by rw [cd,E];exact J) ono) ?_;clear S;rintro h3 ⟨S,Q⟩;simp only [LC]at S;rw [ints_set]at S;simp only [BZ];refine⟨(u.fr.trans (s.mono (fun c a=>.inl a)) (fun c a=>.inl a):Mo (fun c=>c∈F\/c=d) h0 A).trans Q (fun c a=>.inl (.inr a)),F',j.set v arc,by rw [w];exact Y.mo Q (fun b l e=>by subst e;rcases P b l with h|h;exact T h;omega),fun b l=>(P b l).imp (fun h=>h) (fun h=>Xj u.n h),S.row m0,by rw [Xh];exact E,.inr ⟨q,w,rfl⟩⟩
   | some k=>
     by_cases hle:k<=(far:Int)
     . have w:je O K v far=K:=(by unfold je;rw [if_neg q,M];simp only [];rw [if_pos hle]);simp only [BZ,G,y,hle,Xs,seval];exact⟨u.fr,F,j,by rw [w];exact U,fun b l=>.inl l,t,E,.inl ⟨w,rfl⟩⟩
     . have w:je O K v far=c8 K v (some (far:Int)):=(by unfold je;rw [if_neg q,M];simp only [];rw [if_neg hle]);simp only [BZ,L,G,y,hle,Xs,seval];refine step_ret (sU u.ok U hN M (by omega)) ?_;rintro r A ⟨s,Y⟩;have B:Row A d (ints j) 1:=s.has (o:=.row _ 1) t T;have Z:Row A D [ptrTo bp,V,.slice (some ⟨d,0,none⟩) N N,vO,.map (some I)] 1:=s.has (o:=.row _ 1) R1 d2;have C:=Z.load1 (o:=2) rfl;have S:=St.init1 s.ok (o:=.row _ 1) B;simp only [BZ,C,J,seval];refine aC (aA S (i:=0) rfl Tryz.t3.2.2.1 bR (by rw [cd,E];exact J) ono) ?_;clear S;rintro h3 ⟨S,Q⟩;simp only [LC]at S;rw [ints_set]at S;simp only [BZ];refine⟨(u.fr.trans (s.mono (fun c a=>.inl a)) (fun c a=>.inl a):Mo (fun c=>c∈F\/c=d) h0 A).trans Q (fun c a=>.inl (.inr a)),F,j.set v arc,by rw [w];exact Y.mo Q (fun b l e=>by subst e;exact T l),fun b l=>.inl l,S.row m0,by rw [Xh];exact E,.inr ⟨q,w,rfl⟩⟩
end Go.Ab
end

/- Nets, cells, flags: what the functions do (part 3). -/
import Derived.Test.YtpnmkakfejadbaaGreatDoorKdtB
open Go.Ab.Tryz
open Go.Ab.Tryz renaming abEnv->zM,e3E->XI,e143E->Yy
open Int renaming cast_ofNat_Int->zO,tmod_eq_emod_of_nonneg->Xn,natCast_emod->XK,ofNat_eq_natCast->XQ,ofNat->Yl,tdiv_eq_ediv_of_nonneg->Yq
open Bool renaming and_true->Xa,false_eq_true->XB,not_not->Ym
open Nat renaming lt_of_succ_le->Xb,zero_le->Xe,le_trans->Xj,zero_add->Xs,lt_of_lt_of_le->Xu,le_refl->Xz,mul_one->XE,mul_le_mul_right->XH,zero_mul->XJ,one_mul->XO,mod_lt->Ye,le_mul_of_pos_right->Yt,ble_eq_true_of_le->Yw,blt_eq->Yx,beq_refl->YA
open List renaming take->Xc,drop->Xd,mem_append_left->Xf,getElem?_eq_getElem->Xg,append_nil->Xh,take_succ_cons->Xi,range->Xk,getD_eq_getElem?_getD->Xl,map_cons->Xm,filterMap_nil->Xo,drop_zero->Xp,mem_append_right->Xq,not_mem_nil->Xr,map_nil->Xt,take_zero->Xv,mem_cons->Xw,take_succ_eq_append_getElem->Xy,all_cons->XA,getElem_mem->XC,all_nil->XD,length_append->XF,mem_cons_self->XG,cons_append->XL,mem_cons_of_mem->XM,flatMap_append->XN,length_cons->XP,length_map->XR,flatMap_cons->XS,nodup_cons->XV,map_append->XW,nil_append->XX,length_singleton->XY,take_length->XZ,length_take->X6,flatMap_nil->X7,getElem?_cons_zero->X8,getElem?_cons_succ->X9,set_cons_zero->Ya,length_set->Yc,foldl_cons->Yd,filter_cons_of_neg->Yf,foldl_append->Yg,getElem?_map->Yh,sublist_cons_self->Yi,nil_sublist->Yj,map_toArray->Yk,set_cons_succ->Yp,append_assoc->Yr,mem_or_eq_of_mem_set->Ys,filter_cons_of_pos->Yu,range_succ->Yv,getElem_of_mem->Yz
open Option renaming getD_some->Xx,getD_none->XT,map_some->XU,map_none->Yb,isSome_none->Yn,isSome_some->Yo
set_option maxHeartbeats 4000000
set_option linter.defProp false
set_option linter.unusedVariables false
set_option linter.unusedSimpArgs false
namespace Go.Ab
variable{h h' h0 hq:Hp}
variable{C N O a b b1 b2 b4 b5 b6 br c k kk lab m n nb nt o r s t to v w y z:Nat}
variable{ks l pis:List Int}
variable{Q R:Nat->List Int}
variable{d f j p pn vA vE vPi:Value}
variable{D M W:Nat->Prop}
variable{B:Nat->Nat}
variable{i sd:Bool}
variable{F:Bool->List Nat}
variable{G:List GL}
variable{E:Env}
variable{vs:List Value}
variable{q:Operand}
variable{g:FuncId}
variable{post:Array Value}
variable{A:List Arc}
variable{rt:Bool->Nat}
variable{al:Nat->Bool}
variable{pi:Nat->Int}
variable{ρ:Operand->Value}
variable{als:List Bool}
open Go.Proofs
set_option maxRecDepth 10000
def iC(N:Nat)(l:List Int):Prop:=l.length=N/\ ∀x∈l,0<=x/\x<=72057594037927936
theorem mk11_ok(a:OZ h0){x:Int}(d:0<=x/\x<=72057594037927936):aQ zM 89 [.int .i64 x] h0 (.bool false):=by
 have S:=Si a;have b: ¬x<0:=by omega
 have c: ¬72057594037927936<x:=by omega
 refine erA (n:=9) (rs:=[.tmp 2]) e89 ?_;simp only [BZ,aa,b,c,seval];exact S.gr
theorem mkIdx_ok(d:OZ h0){v:Value}(e:aw h0 1 (encI .i64) v l)(k:l.length<=1000000)(f: ∀x∈l,0<=x/\x<=72057594037927936):aQ zM 176 [v,.func (.func 89) #[] #[]] h0 (.int .i64 (-1)):=by
 have S:=Si d;refine erA (n:=19) (rs:=[.tmp 4]) e176 ?_;simp only [BZ,e.lenq,seval];refine aX (fun(i:Nat) a h=>i<=l.length/\Gr h0 h/\a 0=v/\a 1=.func (.func 89) #[] #[]/\a 7=.int .i64 l.length/\a 8=.int .i64 i) (fun i=>l.length-i) ?_ 0 _ _ ?_
 . clear S;intro i j a h ⟨hi,S,r0,r1,r7,r8⟩;by_cases hlt:i<l.length
   . obtain⟨q,o,b,c⟩:=(e.gr S).ix (kd:=.i64) (bR .i64) hlt;have w:am .i64 ((i:Int)+1)=((i+1:Nat):Int):=(by rw [wrap64]<;>omega);simp only [BZ,r0,r1,r7,r8,aE,hlt,b,c,encI,seval];refine ae (mk11_ok S.ok (f _ (XC hlt))) ?_;intro m g;simp only [BZ,r8,w,seval];exact j (i+1) _ _ (by omega) ⟨by omega,S.trans g,by simp [aB,r0,r1,r7]⟩
   . simp only [BZ,aa,r7,r8,aE,hlt,seval];exact S
 . exact⟨Xe _,Gr.refl d,by simp [aB,cK,dE]⟩
theorem mkCf_ok(a:OZ h0){v:Value}(b:aw h0 1 (encI .i64) v l)(c:l.length<=1000000)(d: ∀x∈l,0<=x/\x<=72057594037927936):aQ zM 88 [v,.func (.func 89) #[] #[]] h0 (.bool false):=by have S:=Si a;refine erA (n:=9) (rs:=[.tmp 4]) e88 ?_;simp only [BZ,seval];refine ae (mkIdx_ok S.ok b c d) ?_;intro h g;replace S:=S.call g;simp only [BZ,aa,seval];exact S.gr
theorem mk1_ok(d:OZ h0){v:Value}(f:h0.load b 0 1=some [.int .i64 N])(a:aw h0 1 (encI .i64) v l)(c:iC N l)(i:N<=1000000):aQ zM 87 [v,ptrTo b] h0 (.bool false):=by have S:=Si d;have e:=c.1;subst e;refine erA (n:=12) (rs:=[.tmp 3]) e87 ?_;simp only [BZ,a.lenq,f,seval];refine ae (mkCf_ok S.ok a i c.2) ?_;intro h g;replace S:=S.call g;simp only [BZ,aa,seval];exact S.gr
theorem mkIdxR_ok(e:OZ h0){v:Value}(k:h0.load b 0 1=some [.int .i64 N])(f:gf h0 m v n R)(s:n<=1000000)(l: ∀i,i<n->iC N (R i))(p:N<=1000000):aQ zM 177 [v,.func (.func 87) #[] #[ptrTo b]] h0 (.int .i64 (-1)):=by
 have S:=Si e;refine erA (n:=19) (rs:=[.tmp 4]) e177 ?_;simp only [BZ,f.lenq,seval];refine aX (fun(i:Nat) a h=>i<=n/\Gr h0 h/\a 0=v/\a 1=.func (.func 87) #[] #[ptrTo b]/\a 7=.int .i64 n/\a 8=.int .i64 i) (fun i=>n-i) ?_ 0 _ _ ?_
 . clear S;intro i r a h ⟨hi,S,r0,r1,r7,r8⟩;by_cases hlt:i<n
   . obtain⟨x,⟨q,o,c,d⟩,j,_⟩:=(f.gr S).row hlt;have t:=j.fl;have w:am .i64 ((i:Int)+1)=((i+1:Nat):Int):=(by rw [wrap64]<;>omega);simp only [BZ,r0,r1,r7,r8,aE,hlt,c,d,seval];refine ae (mk1_ok S.ok (S.load k) j (l i hlt) p) ?_;intro u g;simp only [BZ,r8,w,seval];exact r (i+1) _ _ (by omega) ⟨by omega,S.trans g,by simp [aB,r0,r1,ah,r7]⟩
   . simp only [BZ,aa,r7,r8,aE,hlt,seval];exact S
 . exact⟨Xe _,Gr.refl e,by simp [aB,cK,dE,ah]⟩
theorem mkCfR_ok(a:OZ h0){v:Value}(c:h0.load b 0 1=some [.int .i64 N])(d:gf h0 m v n R)(e:n<=1000000)(f: ∀i,i<n->iC N (R i))(j:N<=1000000):aQ zM 91 [v,.func (.func 87) #[] #[ptrTo b]] h0 (.bool false):=by have S:=Si a;refine erA (n:=9) (rs:=[.tmp 4]) e91 ?_;simp only [BZ,seval];refine ae (mkIdxR_ok S.ok c d e f j) ?_;intro h g;replace S:=S.call g;simp only [BZ,aa,seval];exact S.gr
theorem mk2_ok(j:OZ h0){v:Value}(k:h0.load b5 0 1=some [d])(o:h0.load c 0 1=some [.func (.func 87) #[] #[ptrTo b]])(e:aw h0 1 (encI .i64) d l)(p:h0.load b 0 1=some [.int .i64 N])(f:gf h0 m v n R)(q:n<=1000000)(a:l.length=n)(r: ∀i,i<n->iC N (R i))(s:N<=1000000):aQ zM 90 [v,ptrTo b5,ptrTo c] h0 (.bool false):=by have S:=Si j;have t:=e.fl;subst a;refine erA (n:=15) (rs:=[.tmp 4]) e90 ?_;simp only [BZ,f.lenq,e.lenq,k,o,seval];refine ae (mkCfR_ok S.ok p f q r s) ?_;intro h g;replace S:=S.call g;simp only [BZ,aa,seval];exact S.gr
theorem make_ok(ok:OZ h0){mT mF:Nat}{M O P:Value}(s:aw h0 1 (encI .i64) M l)(T:gf h0 mT O l.length R)(U:gf h0 mF P l.length Q)(n1:1<=N)(hN:N<=100)(V:iZ N l)(W: ∀i,i<l.length->iC N (R i))(X: ∀i,i<l.length->iC N (Q i)):Ret zM 35 [.int .i64 N,M,O,P] h0 fun r h'=>Gr h0 h'/\TabAt h' h0.n r N l R Q:=by
 have S:=Si ok;have Y:=V.1;have k:l.length<1000:=by omega
 have c1: ¬(N:Int)<1:=by omega
 have cm:decide (iZ N l)=true:=decide_eq_true V;have fM:=s.fl;obtain⟨ma,mn,mc,rfl⟩:=s.form;refine erA (n:=40) (rs:=[.tmp 8]) e35 ?_;simp only [BZ,seval];refine ab (aW (by intro x e;cases e)) S ?_;clear S;intro h d S Z;simp only [ac]at S;simp only [BZ,if_false,seval];refine ab (aW (by intro x e;cases e)) S ?_;clear S;intro h f S ad;simp only [ac]at S;simp only [BZ,seval];refine ab au S ?_;clear S;intro h A S af;simp only [BZ,seval];refine az (aA S (i:=0) rfl ?_ ?_ ?_ ono) ?_
 . exact(by simp only [FA0])
 . exact(by exact dI)
 . exact Xb (lbt rfl)
 clear S;rintro h ⟨S,mo⟩;clear mo;simp only [LC,ac,lay,Xc,Xd,seval]at S;have m:=S.ld (b:=d) (o:=0) m2 rfl;have p:=S.ld (b:=f) (o:=0) m1 rfl;have y:=S.ld (b:=A) (o:=0) m0 rfl;simp only [BZ,m,p,c1,seval];refine ae (may_ok S.ok (s.gr S.gr) (by omega)) ?_;intro h g;replace S:=S.call g;rw [cm];simp only [BZ,seval];have m:=S.ld (b:=d) (o:=0) m2 rfl;have p:=S.ld (b:=f) (o:=0) m1 rfl;have y:=S.ld (b:=A) (o:=0) m0 rfl;refine ae (mk2_ok S.ok p y (s.gr S.gr) m (T.gr S.gr) (by omega) rfl W (by omega)) ?_;intro h g;replace S:=S.call g;simp only [BZ,seval];have m:=S.ld (b:=d) (o:=0) m2 rfl;have p:=S.ld (b:=f) (o:=0) m1 rfl;have y:=S.ld (b:=A) (o:=0) m0 rfl;refine ae (mk2_ok S.ok p y (s.gr S.gr) m (U.gr S.gr) (by omega) rfl X (by omega)) ?_;intro h g;replace S:=S.call g;have m:=S.ld (b:=d) (o:=0) m2 rfl;have p:=S.ld (b:=f) (o:=0) m1 rfl;simp only [BZ,seval];refine ao (av rfl) (q:=256) (ps:=[(0,6),(0,4),(0,2)]) (by kernel_rfl) ?_;simp only [BZ,cls,m,p,seval];refine bO (jR S.ok (bR .i64) (s.gr S.gr) (by omega)) ?_;rintro v h ⟨g,a,nM⟩;have e41:leaves _ _ d=true:=ag g ((S.row (b:=d) m2).lt S.ok);have e51:leaves _ _ f=true:=ag g ((S.row (b:=f) m1).lt S.ok);have k1:=S.fr.n;have B:=fun c (j:c∈keys _ _)=>S.key_lt j;replace S:=S.call g;obtain⟨va,vn,vc,rfl⟩:=a.form;simp only [BZ,cls,seval];refine bO (sq S.ok (T.gr S.gr) k (fun i C=>by have:=(W i C).1;omega)) ?_;rintro v h ⟨g,z⟩;have e42:leaves _ _ d=true:=ag g ((S.row (b:=d) m2).lt S.ok);have e52:leaves _ _ f=true:=ag g ((S.row (b:=f) m1).lt S.ok);have k2:=S.fr.n;have D:=fun c (j:c∈keys _ _)=>S.key_lt j;replace S:=S.call g;replace a:=a.gr g;clear g;obtain⟨ta,tn,tc,rfl⟩:=z.form;simp only [BZ,cls,seval];refine bO (sq S.ok (U.gr S.gr) k (fun i C=>by have:=(X i C).1;omega)) ?_;rintro v h ⟨g,L2⟩;have e43:leaves _ _ d=true:=ag g ((S.row (b:=d) m2).lt S.ok);have e53:leaves _ _ f=true:=ag g ((S.row (b:=f) m1).lt S.ok);have k3:=S.fr.n;have E:=fun c (j:c∈keys _ _)=>S.key_lt j;replace S:=S.call g;replace a:=a.gr g;replace z:=z.gr g;clear g;obtain⟨fa,fn,fc,rfl⟩:=L2.form;simp only [BZ,cls,seval];have t:=S;replace S:=S.base;have q4:=(t.row (b:=d) m2).lt t.ok;have q5:=(t.row (b:=f) m1).lt t.ok;refine cV (aW (by intro x e;cases e)) S ?_;clear S;intro h b S ai F;simp only [ac]at S;have G:d≠b:=by omega
 have H:f≠b:=by omega
 simp only [BZ,cls,aa,seval];refine⟨by simp only [aI,aO,aF,aK,aH,ne_eq,not_false_eq_true,aU,aY,aN,aJ,bw,bN,aD,Xa,ah,an e41,an e42,an e43,an e51,an e52,an e53,cS G,cS H,<-F,seval],?_⟩;have I:=S.fr;have u:=a.mo I (fun c j w=>by have:=nM c j;have:=B c w;omega);have J:=z.mo I (fun c w=>.inl (D c w));have K:=L2.mo I (fun c w=>.inl (E c w));have L:=S.row (b:=b) m0;replace S:=t.rebase S;exact⟨S.gr,⟨b,_,_,_,rfl,L,u,J.ll.low k2,K.ll.low k3,(S.own _ m0).1.elim (fun h=>h) (fun h=>h.elim),fun c j=>Xj k1 (nM c j)⟩⟩
theorem Fb(u:OZ h0)(t:TabAt h0 m p N l R Q)(f:l.length<1000)(w: ∀i,i<l.length->(R i).length<1000000)(x: ∀i,i<l.length->(Q i).length<1000000):Ret zM 34 [p] h0 fun r h'=>Gr h0 h'/\ ∃d e k,r=.tuple #[d,e]/\LLD h' h0.n k d l.length R/\LLD h' k h'.n e l.length Q/\h0.n<=k/\k<=h'.n:=by
 have S:=Si u;obtain⟨b,E,d,e,rfl,a,_,y,z,_⟩:=t.ex;have A:=a.load1 (o:=2) rfl;refine erA (n:=16) (rs:=[.tmp 2,.tmp 3]) e34 ?_;simp only [BZ,seval];refine ao (av rfl) (q:=0) (ps:=[(4,8)]) (by kernel_rfl) ?_;simp only [BZ,cls,A,seval];refine bO (sq S.ok (y.gr S.gr) f w) ?_;rintro v h ⟨g,c⟩;have F:=S.fr.n;have j:leaves _ _ b=true:=ag g (a.lt S.ok);replace S:=S.call g;replace a:=a.gr g;clear g;obtain⟨G,H,I,rfl⟩:=c.form;have B:=a.load1 (o:=3) rfl;simp only [BZ,cls,B,seval];refine bO (sq S.ok (z.gr S.gr) f x) ?_;rintro v h ⟨g,s⟩;have C:=S.fr.n;have D:=S.ok;replace S:=S.call g;replace c:=c.gr g;obtain⟨J,K,L,rfl⟩:=s.form;simp only [BZ,cls,aa,seval];refine⟨by simp only [aI,aO,aF,aK,aH,ne_eq,not_false_eq_true,aU,aY,aN,aJ,bw,bN,aD,Xa,ah,an j,aq j,seval],?_⟩;exact⟨S.gr,_,_,_,rfl,c,s,C,g.n⟩
theorem LLD.at{h:Hp}{m k n:Nat}{v:Value}{R:Nat->List Int}(r:LLD h m k v n R){i:Nat}(J:i<n)(y:R i≠ []):
 ∃ c,(∃q o,nw (some 1) v (.int .i64 (i:Nat))=some (.pointer (some ⟨q,o,none⟩))/\h.load q o 1=some [.slice (some ⟨c,0,some 1⟩) (R i).length (R i).length])/\Row h c (ints (R i)) 1/\m<=c/\c<k/\
   ∀h' l',Mo (· =c) h h'->l'.length=(R i).length->Row h' c (ints l') 1->LLD h' m k v n (fun t=>if t=i then l' else R t):=by
 obtain⟨p,a,b,c,d,e⟩:=r;obtain⟨q,o,H,z⟩:=a.ix (kd:=.i64) uk (i:=i) (by omega);have A:p[i]? =some p[i]:=Xg (by omega);obtain⟨⟨K,I⟩,B⟩:=d i _ A;obtain⟨l,C,D⟩:=I y;have f:ar p[i] l:=by rw [C];rfl
 refine⟨l,⟨q,o,H,by rw [<-C];exact z⟩,D,(B l f).1,(B l f).2.1,fun h' l' G s g=>⟨p,a.mo G (fun x E e=>by subst e;exact(B _ f).2.2 E),b,c,fun j w u=>?_,e⟩⟩;refine⟨?_,(d j w u).2⟩;show WrI h' w (if j=i then l' else R j);by_cases F:j=i
 . subst F;rw [if_pos rfl];rw [A]at u;cases u;rw [C];refine⟨.inr ⟨l,0,some 1,(R j).length,by rw [s],by omega,?_⟩,fun _=>⟨l,by rw [s],g⟩⟩;rw [g.load (by rw [cC];omega),Xp,XE,<-cC l',XZ];rfl
 . rw [if_neg F];exact(d j w u).1.mo G (fun x E z=>by subst z;exact e j i w p[i] _ u A F E f)
theorem CZ{B:List Arc}(h: ∀v,dOf B s v<=FAR){x:Int}(a:x∈rowD B N s):0<=x/\x<=72057594037927936:=by unfold rowD at a;obtain⟨v,_,rfl⟩:=List.mem_map.1 a;have:=h v;unfold FAR at this;omega
def crcS(r:Nat):Nat:=(r>>>1) ^^^(if r%2=1 then 3988292384 else 0)
def crcN:Nat->Nat->Nat
 |0,r=>r|k+1,r=>crcN k (crcS r)
def crcB(r b:Nat):Nat:=crcN 8 (r ^^^b)
def crcL(r:Nat)(l:List UInt8):Nat:=l.foldl (fun r b=>crcB r b.toNat) r
def crc(l:List UInt8):Nat:=4294967295 ^^^crcL 4294967295 l
abbrev Bs:=List UInt8
def getN:Bs->Nat
 | []=>0|b::l=>b.toNat+256*getN l
def first6:Bs:=[77,73,76,69,49,1]
abbrev Ent:=Nat×Nat×Nat
def entD(s:Bs):Ent:=(getN (s.take 1),getN ((s.drop 1).take 8),getN ((s.drop 9).take 4))
def entsD:Nat->Bs->List Ent
 |0,_=>[]|k+1,s=>entD s::entsD k (s.drop 13)
def wE(s:Bs):Nat:=getN ((s.drop 6).take 1)
def headOk(s:Bs):Prop:=s.take 6=first6/\7<=s.length/\wE s<=16/\11+13*wE s<=s.length/\getN ((s.drop (7+13*wE s)).take 4)=crc (s.take (7+13*wE s))/\
 ((entsD (wE s) (s.drop 7)).map (·.2.1)).sum=s.length-(11+13*wE s)
noncomputable instance (s:Bs):Decidable (headOk s):=Classical.propDecidable _
def u64(x:Int):Nat:=(x%18446744073709551616).toNat
def i64(n:Nat):Int:=if n<9223372036854775808 then n else n-18446744073709551616
theorem u64_lt(x:Int):u64 x<256 ^8:=by unfold u64;omega
structure Tab where
 l:List Int
 to:List (List Int)
 fr:List (List Int)
structure Img where
 g:Gra
 T:Option Tab
 C:Option (List Int×Bs)
variable{I:Img}
structure TabL(N:Nat)(T:Tab):Prop where
 l1:1<=T.l.length
 l2:T.l.length<=16
 to:T.to.length=T.l.length
 fr:T.fr.length=T.l.length
 rTo: ∀r∈T.to,r.length=N/\ ∀x∈r,0<=x/\x<=72057594037927936
 rFr: ∀r∈T.fr,r.length=N/\ ∀x∈r,0<=x/\x<=72057594037927936
 rl: ∀x∈T.l,0<=x/\x<4294967296
theorem hf_u{k:IntKind}(h:sgn k=false):hf k=pw k:=by cases k<;>first|rfl|cases h
theorem wrapN{k:IntKind}(h:sgn k=false)(n:Nat):am k (n:Int)=((n%pw k:Nat):Int):=by
 show am k (.ofNat n)=_;simp only [am,hf_u h,h];cases a:Nat.blt n (pw k)with
 |true=>rw [Yx]at a;rw [cond_true,Nat.mod_eq_of_lt a];rfl|false=>rfl
theorem yB{k:IntKind}(h:sgn k=false)(a:n<pw k):am k (n:Int)=(n:Int):=by rw [wrapN h,Nat.mod_eq_of_lt a]
section
variable{E:Env}{t:TypeId}{p q:Operand}{x y:Nat}{k k':IntKind}
theorem bitsU(op:BinOp)(a:x<pw k)(b:y<pw k):jL op k (x:Int) (y:Int)=match op with
 | .and=>some (am k ((x&&& y:Nat):Int))| .or=>some (am k ((x|||y:Nat):Int))
 | .xor=>some (am k ((x ^^^y:Nat):Int))| .andNot=>some (am k ((x ^^^(x&&& y):Nat):Int))|_=>none:=by
 show jL op k (.ofNat x) (.ofNat y)=_;have c:Nat.blt x (pw k)=true:=by rw [Yx];exact a
 have d:Nat.blt y (pw k)=true:=by rw [Yx];exact b
 unfold jL;simp only [c,d,Bool.and_self,cond_true];cases op<;>rfl
theorem b_andN(h:sgn k=false)(a:x<pw k)(b:y<pw k):ce E .and t p q (.int k (x:Int)) (.int k (y:Int))=some (.int k ((x&&& y:Nat):Int)):=by show(bif kL k k then(jL .and k (x:Int) (y:Int)).map (Value.int k ·)else none)=_;rw [bitsU .and a b,gQ];simp only [yB h (Nat.lt_of_le_of_lt Nat.and_le_left a)];rfl
end
def sv(l:Bs):Value:=.string (jg l)
theorem wrap_u64(x:Int):am .u64 x=(u64 x:Int):=by
 cases x with
 |ofNat m=>exact(wrapN rfl m).trans (by unfold u64;rw [show Yl m=(m:Int)from rfl];simp only [pw];omega)|negSucc m=>show((pw .u64-1-m%pw .u64:Nat):Int)=_;unfold u64;simp only [pw];omega
def byB(n:Nat)(B:Nat->Nat):Bs:=(Xk n).map fun j=>UInt8.ofNat (B j)
def kX(l:List (List Int))(i:Nat):List Int:=l.getD i []
def TabM(h:Hp)(p:Value)(N:Nat)(T:Tab):Prop:=(∃m,TabAt h m p N T.l (kX T.to) (kX T.fr))/\TabL N T
theorem TabM.gr{h h':Hp}{p:Value}{N:Nat}{T:Tab}(t:TabM h p N T)(g:Gr h h'):TabM h' p N T:=⟨by obtain⟨m,x⟩:=t.1;exact⟨m,x.gr g⟩,t.2⟩
def CelM(h:Hp)(e f:Value)(c:Gra)(m:List Int)(F:Bs):Prop:= ∃k d g b a B,kj h k e m/\m.length=c.nodes/\f=ptrTo d/\ic m+1=((b:Nat):Int)/\eJ h d g b c.arcs.length a B/\F=byB (b*a) B/\(∀x∈m,0<=x/\x<256)/\ ¬yT m/\a=(c.arcs.length+7)/8/\Tz c.arcs.length a B
theorem CelM.gr{h h':Hp}{n o:Value}{p:Gra}{m:List Int}{F:Bs}(c:CelM h n o p m F)(g:Gr h h'):CelM h' n o p m F:=by obtain⟨k,q,r,j,l,B,a,b,c,d,e,f,i⟩:=c;exact⟨k,q,r,j,l,B,a.gr g,b,c,d,e.gr g,f,i⟩
def TabX(h:Hp)(p:Value)(N:Nat):Option Tab->Prop
 |none=>p=.pointer none|some T=>TabM h p N T
def CelX(h:Hp)(a b:Value)(c:Gra):Option (List Int×Bs)->Prop
 |none=>a=.pointer none/\b=.pointer none|some (m,F)=>CelM h a b c m F
theorem TabX.gr{h h':Hp}{p:Value}{N:Nat}{T:Option Tab}(t:TabX h p N T)(g:Gr h h'):TabX h' p N T:=by
 cases T with
 |none=>exact t|some T=>exact TabM.gr t g
theorem CelX.gr{h h':Hp}{a b:Value}{d:Gra}{C:Option (List Int×Bs)}(t:CelX h a b d C)(g:Gr h h'):CelX h' a b d C:=by
 cases C with
 |none=>exact t|some c=>exact CelM.gr t g
def ImC(h:Hp)(pn a b c:Value)(I:Img):Prop:=(∃d,aP h d pn I.g)/\mC I.g/\TabX h a I.g.nodes I.T/\CelX h b c I.g I.C
theorem ImC.gr{h h':Hp}{pn a b c:Value}{I:Img}(i:ImC h pn a b c I)(g:Gr h h'):ImC h' pn a b c I:=⟨by obtain⟨d,n⟩:=i.1;exact⟨d,n.gr g⟩,i.2.1,i.2.2.1.gr g,i.2.2.2.gr g⟩
def ImAt(h:Hp)(b:Nat)(I:Img):Prop:= ∃a c d e,Row h b [a,c,d,e] 1/\ImC h a c d e I
theorem ImAt.gr{h h':Hp}{b:Nat}{I:Img}(i:ImAt h b I)(g:Gr h h'):ImAt h' b I:=by obtain⟨a,d,e,f,r,c⟩:=i;exact⟨a,d,e,f,r.gr g,c.gr g⟩
theorem TabM.ptr{T:Tab}(t:TabM h p N T): ∃b,p=ptrTo b:=by obtain⟨⟨m,t⟩,_⟩:=t;obtain⟨b,_,_,_,e,_⟩:=t.ex;exact⟨b,e⟩
theorem CelM.ptr{a:Value}{i:Gra}{m:List Int}{F:Bs}(c:CelM h a d i m F): ∃b c,a=ptrTo b/\d=ptrTo c:=by obtain⟨k,j,n,f,g,B,⟨b,_,e,_⟩,_,l,_⟩:=c;exact⟨b,j,e,l⟩
theorem aP.ptr{c:Gra}(n:aP h a p c): ∃b,p=ptrTo b:=by obtain⟨b,_,_,_,_,_,e,_⟩:=n.ex;exact⟨b,e⟩
theorem bSetG_ok(t:OZ h0)(m:eJ h0 k o b a c B)(p:k≠o){i:Nat}(d:b<=100)(e:a<=1000)(j:c=(a+7)/8)(x:Bool):Ret zM 39 [ptrTo k,.int .i64 (r:Nat),.int .i64 (i:Nat),.bool x] h0 fun v h'=>Mo (· =o) h0 h'/\ ∃u,eJ h' k o b a c u/\(Tz a c B->Tz a c u):=by
 by_cases l:r<b/\i<a
 . exact bSetZ_ok t m p l.1 l.2 d e j x
 have A: ∀{h:Hp} {f:Value},Gr h0 h->Fl f->aQ zM 99 [ptrTo k,.int .i64 (r:Nat),.int .i64 (i:Nat),f] h (.bool false):=by
  intro h f g E;have S:=Si g.ok;have q:=m.gr g;have w: ¬(r:Int)<0:=by omega
  have C: ¬(i:Int)<0:=by omega
  by_cases F:r<b
  . have s: ¬(b:Int)<=(r:Int):=(by omega);have D:(a:Int)<=(i:Int):=(by omega);refine erA (n:=46) (rs:=[.tmp 8]) e99 ?_;simp only [BZ,w,seval];refine ae (jT S.ok q.bits) ?_;intro h g;replace S:=S.call g;simp only [BZ,s,C,seval];refine ae (jN S.ok (q.gr S.gr).bits) ?_;intro h g;replace S:=S.call g;simp only [BZ,aa,D,seval];exact S.gr
  . have s:(b:Int)<=(r:Int):=(by omega);refine erA (n:=46) (rs:=[.tmp 8]) e99 ?_;simp only [BZ,w,seval];refine ae (jT S.ok q.bits) ?_;intro h g;replace S:=S.call g;simp only [BZ,aa,s,seval];exact S.gr
 have S:=Si t;refine erA (n:=14) (rs:=[.tmp 8]) e39 ?_;simp only [BZ,seval];refine ab (bz (by exact oH)) S ?_;clear S;intro h G S y;simp only [BZ,seval];refine ae (A S.gr dI) ?_;intro h g;replace S:=S.call g;simp only [BZ,seval];exact⟨S.gr.fr,B,m.gr S.gr,fun z=>z⟩
theorem gf.congr{v:Value}{f:Nat->List Int}(r:gf h m v n R)(e: ∀i,i<n->R i=f i):gf h m v n f:=by
 obtain⟨j,a,b,c,d⟩:=r;exact⟨j,a,b,c,fun i w g=>by
  have:=(List.getElem?_eq_some_iff.1 g).1;rw [<-e i (by omega)];exact d i w g⟩
theorem TabAt.congr{h:Hp}{m N:Nat}{p:Value}{l:List Int}{R Q a c:Nat->List Int}(t:TabAt h m p N l R Q)(d: ∀i,i<l.length->R i=a i)(e: ∀i,i<l.length->Q i=c i):TabAt h m p N l a c:=by obtain⟨b,f,g,j,k,n,o,q,r,s,u⟩:=t.ex;exact⟨b,f,g,j,k,n,o,q.congr d,r.congr e,s,u⟩
def tabL(l:List Int)(R Q:Nat->List Int):Tab:=⟨l,(Xk l.length).map R,(Xk l.length).map Q⟩
theorem lO{i:Nat}(h:i<n):kX ((Xk n).map R) i=R i:=by unfold kX;simp [Xl,h]
theorem tabL_at(t:TabAt h m p N l R Q):TabAt h m p N (tabL l R Q).l (kX (tabL l R Q).to) (kX (tabL l R Q).fr):=
 t.congr (fun i a=>(lO a).symm) (fun i a=>(lO a).symm)
theorem tabL_L(d:iZ N l)(k:N<=1000)(c:1<=l.length)(e: ∀i,i<l.length->iC N (R i))(f: ∀i,i<l.length->iC N (Q i)):TabL N (tabL l R Q):=by
 have a: ∀{F:Nat->List Int},(∀i,i<l.length->iC N (F i))-> ∀r∈(Xk l.length).map F,r.length=N/\ ∀x∈r,0<=x/\x<=72057594037927936:=fun {F} g r h=>by obtain⟨i,b,rfl⟩:=List.mem_map.1 h;exact g i (List.mem_range.1 b)
 exact⟨c,d.1,by simp [tabL],by simp [tabL],a e,a f,fun x j=>by
  obtain⟨i,b,rfl⟩:=Yz (l:=l) j;have:=d.2 i b;simp only [Xl,Xg b,Xx]at this;have c:=this.1;have m:=this.2.1;exact⟨c,by omega⟩⟩
theorem ownRows(d:OZ h0){a:Gra}(b:Good a){f:Nat}(e:aP h0 f pn a)(g:iZ a.nodes l){i:Nat}(j:i<l.length):iC a.nodes (toR a l i)/\iC a.nodes (frR a l i):=by have h:=g.2 i j;exact⟨⟨uB _ _ _,fun x c=>CZ (fun v=>(exTo d b e (by omega) v).le) c⟩,uB _ _ _,fun x c=>CZ (fun v=>(exFrom d b e (by omega) v).le) c⟩
theorem fits_im(g:OZ h0){b:Value}{a:Gra}{h:Nat}{m:List Int}{F:Bs}(i:aP h0 h pn a)(j:1<=a.nodes)(q:a.nodes<1000000)(c:CelM h0 b d a m F):aQ zM 42 [pn,b,d] h0 (.bool true):=by obtain⟨k,r,s,e,f,B,l,n,rfl,o,p,_⟩:=c;have:=xz g i (.inr ⟨⟨k,l⟩,rfl⟩) p.bits j (by omega);simpa [n,o]using this
theorem yw(G:OZ h0)(i:ImAt h0 b I):aQ zM 9 [ptrTo b] h0 (.bool true):=by
 have S:=Si G;obtain⟨U,H,J,K,r,⟨V,w⟩,x,f,a⟩:=i;obtain⟨W,rfl⟩:=w.ptr;have L:=r.lt G;have c:=r.load1 (o:=0) rfl;have d:=r.load1 (o:=1) rfl;have k:=r.load1 (o:=2) rfl;have p:=r.load1 (o:=3) rfl;have M:=x.n1;have X:=x.n2;cases N:I.T with
 | none=>
   rw [N]at f;have f:H=.pointer none:=f;subst f;cases y:I.C with
   | none=>
     rw [y]at a;obtain⟨rfl,rfl⟩:=a;refine erA (n:=72) (rs:=[.tmp 2]) Tryz.e9 ?_;simp only [BZ,c,seval];refine ao (av rfl) (q:=0) (ps:=[(10,14)]) (by kernel_rfl) ?_;simp only [BZ,cls,d,k,p,seval];refine⟨by simp only [aI,aO,aF,aK,aH,ne_eq,not_false_eq_true,aU,aY,aN,aJ,bw,bN,aD,Xa,ah,cL,seval];rfl,?_⟩;refine ao (av rfl) (q:=0) (ps:=[]) (by kernel_rfl) ?_;simp only [BZ,cls,aa,seval];exact S.gr
   | some D=>
     obtain⟨m,F⟩:=D;rw [y]at a;have a:CelM h0 J K I.g m F:=a;obtain⟨Q,R,rfl,rfl⟩:=a.ptr;refine erA (n:=72) (rs:=[.tmp 2]) Tryz.e9 ?_;simp only [BZ,c,seval];refine ao (av rfl) (q:=0) (ps:=[(10,14)]) (by kernel_rfl) ?_;simp only [BZ,cls,d,k,seval];refine⟨by simp only [aI,aO,aF,aK,aH,ne_eq,not_false_eq_true,aU,aY,aN,aJ,bw,bN,aD,Xa,ah,cL,seval];rfl,?_⟩;refine ao (av rfl) (q:=0) (ps:=[]) (by kernel_rfl) ?_;simp only [BZ,cls,c,k,p,seval];refine bj (fits_im S.ok w M (by omega) a) ?_;intro h g;have s:=ag g L;replace S:=S.call g;simp only [BZ,cls,aa,seval];exact S.gr
 | some T=>
   rw [N]at f;have f:TabM h0 H I.g.nodes T:=f;obtain⟨Y,rfl⟩:=f.ptr;obtain⟨⟨mt,B⟩,O⟩:=f;have t1:=O.l1;have t2:=O.l2;have P:(0:Int)<(T.l.length:Int):=(by omega);have q: ∀{t u C:Hp},Gr h0 t->Gr t u->Gr u C->leaves h0 t b=true/\leaves t u b=true/\leaves u C b=true:=fun e j l=>(by have:=e.n;have:=j.n;exact⟨ag e L,ag j (by omega),ag l (by omega)⟩);cases y:I.C with
   | none=>
     rw [y]at a;obtain⟨rfl,rfl⟩:=a;refine erA (n:=72) (rs:=[.tmp 2]) Tryz.e9 ?_;simp only [BZ,c,seval];refine ao (av rfl) (q:=0) (ps:=[(10,14)]) (by kernel_rfl) ?_;simp only [BZ,cls,d,seval];refine bj (lW S.ok B) ?_;intro t e;replace S:=S.call e;simp only [BZ,cls,e.load c,seval];refine bj (bC S.ok (w.gr S.gr)) ?_;intro u j;replace S:=S.call j;simp only [BZ,cls,S.gr.load d,seval];refine bO (jP S.ok (B.gr S.gr) (by omega)) ?_;rintro v C ⟨l,E,_⟩;obtain⟨s,z,A⟩:=q e j l;replace S:=S.call l;simp only [BZ,cls,E.lenq,P,S.gr.load c,S.gr.load d,S.gr.load k,S.gr.load p,seval];refine⟨by simp only [aI,aO,aF,aK,aH,ne_eq,not_false_eq_true,aU,aY,aN,aJ,bw,bN,aD,Xa,ah,cL,aq s,an s,aq z,an z,aq A,an A,seval],?_⟩;refine ao (av rfl) (q:=0) (ps:=[]) (by kernel_rfl) ?_;simp only [BZ,cls,aa,S.gr.load c,S.gr.load d,S.gr.load k,S.gr.load p,seval];exact S.gr
   | some D=>
     obtain⟨m,F⟩:=D;rw [y]at a;have a:CelM h0 J K I.g m F:=a;obtain⟨Q,R,rfl,rfl⟩:=a.ptr;refine erA (n:=72) (rs:=[.tmp 2]) Tryz.e9 ?_;simp only [BZ,c,seval];refine ao (av rfl) (q:=0) (ps:=[(10,14)]) (by kernel_rfl) ?_;simp only [BZ,cls,d,seval];refine bj (lW S.ok B) ?_;intro t e;replace S:=S.call e;simp only [BZ,cls,e.load c,seval];refine bj (bC S.ok (w.gr S.gr)) ?_;intro u j;replace S:=S.call j;simp only [BZ,cls,S.gr.load d,seval];refine bO (jP S.ok (B.gr S.gr) (by omega)) ?_;rintro v C ⟨l,E,_⟩;obtain⟨s,z,A⟩:=q e j l;replace S:=S.call l;simp only [BZ,cls,E.lenq,P,S.gr.load c,S.gr.load d,S.gr.load k,S.gr.load p,seval];refine⟨by simp only [aI,aO,aF,aK,aH,ne_eq,not_false_eq_true,aU,aY,aN,aJ,bw,bN,aD,Xa,ah,cL,aq s,an s,aq z,an z,aq A,an A,seval],?_⟩;refine ao (av rfl) (q:=0) (ps:=[]) (by kernel_rfl) ?_;simp only [BZ,cls,S.gr.load c,S.gr.load d,S.gr.load k,S.gr.load p,seval];have Z:=S.gr.n;refine bj (fits_im S.ok (w.gr S.gr) M (by omega) (a.gr S.gr)) ?_;intro h g;have e4:=ag g (show b<_ by omega);replace S:=S.call g;simp only [BZ,cls,aa,seval];exact S.gr
theorem St.growB{L:List (Nat×Ob)}(S:St M h0 h L G){t w e:TypeId}{f len md:Nat}{y new:List Value}{x:Value}(B:Row h b vs md)(a:len*k=vs.length)(C:E.und t=some (.slice e))(D:fV E e f k y)(F:0<f)(q:eS E w=some false)(g:aR h k x=some (m,new))(z:m*k=new.length)(H:0<m)(A:0<k)(r:(vs.length+new.length)*(f+1)<=70368744177664){ts:List TypeId}:
 ∃h' v',dS E h (t::w::ts) (.slice (some ⟨b,0,none⟩) len len) x=some (h',v')/\St M h0 h' L ((v',k,vs++new)::G):=by
 obtain⟨⟨i,I,rfl,rfl⟩,J,K⟩:=D;obtain⟨p,N,j,d,s⟩:=B;have l:Nat.ble (len+m) len=false:=by
  cases q:Nat.ble (len+m) len with
  |false=>rfl|true=>exact absurd (lbt q) (by omega)
 have o:len+m<=vs.length+new.length:=by rw [<-a,<-z];have H:=Yt len A;have O:=Yt m A;omega
 have c:(Nat.ble ((len+m)*(i.bytes+1)) 70368744177664&&Nat.blt 0 i.bytes)=true:=by rw [Yw (Xj (XH _ o) r)];simp only [Bool.true_and];rw [Yx];exact F
 have u:Nat.beq y.length i.size=true:=by rw [K];exact YA _
 have v:lE p vs.length 0 (len*i.size) new=some (p.pushAll vs.length new,vs.length+new.length):=by unfold lE;rw [a,YA vs.length];rfl
 refine⟨h.new (.cells (p.pushAll vs.length new) (vs.length+new.length) e 1),.slice (some ⟨h.n,0,some i.size⟩) (len+m) (len+m),?_,S.newG (n:=len+m) ?_ ?_⟩
 . unfold dS;simp only [q];unfold lZ;simp only [C,I,g];unfold ig;rw [l];simp only [cond_false];rw [c,J];simp only [cond_true,u];unfold pY;simp only [j,v]
 . rw [Nat.add_mul,a,z,XF]
 . refine⟨p.pushAll vs.length new,e,?_,?_,fun n=>?_⟩
   . rw [Hp.get_new _ _ S.ok,if_pos rfl,XF]
   . rw [XF];exact Tr.sized_pushAll _ d
   . rw [Tr.get_pushAll _ _ _ d,List.getElem?_append]
     split
     . exact s n
     . rfl
theorem pos_first{x:Int}: ∀{i:Nat} (a:i<ks.length),ks[i]=x->(∀j (c:j<ks.length),j<i->ks[j]≠x)->pos ks x=some i:=by
 induction ks with
 |nil=>intro i a;simp at a| cons y k f=>
   intro i a b d;cases i with
   |zero=>simp only [List.getElem_cons_zero]at b;unfold pos;rw [if_pos b.symm]| succ i=>
     have g:y≠x:=d 0 (by simp) (by omega);have:=f (i:=i) (by simpa using a) (by simpa using b) (fun j c h=>by have:=d (j+1) (by simpa using c) (by omega);simpa using this);unfold pos;rw [if_neg (fun e=>g e.symm),this];rfl
theorem pos_no{x:Int}(a: ∀j (b:j<ks.length),ks[j]≠x):pos ks x=none:=by
 induction ks with
 |nil=>rfl| cons y f c=>
   have d:y≠x:=a 0 (by simp);unfold pos;rw [if_neg (fun e=>d e.symm),c (fun j b=>by have:=a (j+1) (by simpa using b);simpa using this)];rfl
theorem Fz(ok:OZ h0){v:Value}(K:aw h0 1 (encI .i64) v l)(hl:l.length<1000):Ret zM 37 [v] h0 fun r h'=>Gr h0 h'/\aw h' 1 (encI .i64) r (norm [] l)/\ ∀c,ar r c->h0.n<=c:=by
 have S:=Si ok;have fv:=K.fl;refine erA (n:=46) (rs:=[.tmp 2]) e37 ?_;simp only [BZ];replace S:=(S.nilG (k:=1)).nilG (k:=1);refine aX (fun(i:Nat) g h=>i<=l.length/\ ∃(L C:Value) (p ks:List Int),St NoM h0 h [] [(C,1,ints ks),(L,1,ints p)]/\norm [] l=p++norm ks (l.drop i)/\p.length=i/\ks.length<=i/\g 0=v/\g 3=L/\g 4=C/\g 5=.int .i64 i) (fun i=>l.length-i) ?_ 0 _ _ ?_
 . clear S;intro i W g h ⟨hi,L,C,p,ks,S,hnm,lo,lk,s,A,B,t⟩;have w:am .i64 ((i:Int)+1)=((i+1:Nat):Int):=(by rw [wrap64]<;>omega);by_cases hlt:i<l.length
   . have X:l.drop i=l[i]::l.drop (i+1):=List.drop_eq_getElem_cons hlt;obtain⟨c0,o0,P,Y⟩:=K.ix (kd:=.i64) (bR .i64) hlt;generalize l[i]=x at X Y;simp only [BZ,s,t,K.lenq,aE,hlt,seval];refine aX (fun(a:Nat) g h'=>h'=h/\a<=ks.length/\(∀j (F:j<ks.length),j<a->ks[j]≠x)/\g 0=v/\g 3=L/\g 4=C/\g 5=.int .i64 i/\g 6=.int .i64 a) (fun a=>ks.length-a) ?_ 0 _ _ ?_
     . clear s A B t;rintro a Q g h' ⟨rfl,ha,R,s,A,B,t,M⟩;have wa:am .i64 ((a:Int)+1)=((a+1:Nat):Int):=(by rw [wrap64]<;>omega);have N:aw h' 1 (encI .i64) C ks:=(S.gown _ m0).1.sl rfl (fun _=>rfl) (by decide);have D:h'.load c0 o0 1=some [.int .i64 x]:=S.gr.load Y;have G: ∀(q:Nat) (z:List Int) (u d:Value) (T:Nat->Value) (E:Hp),q=qo ks x->z=qc ks x->St NoM h0 E [] [(u,1,ints z),(d,1,ints (p++[(q:Int)]))]->norm [] l=(p++[(q:Int)])++norm z (l.drop (i+1)):=fun q z u d T E e1 e2 _=>(by rw [hnm,X,norm,<-e1,<-e2,Yr];rfl);by_cases y:a<ks.length
       . obtain⟨c1,o1,Z,H⟩:=N.ix (kd:=.i64) (bR .i64) y;replace H:h'.load c1 o1 1=some [.int .i64 ks[a]]:=H;by_cases O:ks[a]=x
         . simp only [BZ];refine ao (av rfl) (q:=0) (ps:=[]) (by kernel_rfl) ?_;have U: ¬(a:Int)=(ks.length:Int):=(by omega);rw [O]at H;simp only [BZ,cls,aa,s,A,B,t,M,N.lenq,aE,y,Z,H,P,D,U,seval];refine ab (bZ (by exact t41.1) (by exact XI) (by decide) (by rfl)) S ?_;clear S;intro h I S J;simp only [LC,bJ,cd,ac,XJ,Xs,XE,XO,seval]at S;simp only [BZ,seval];have ps:=pos_first y O R;have f:aR h 1 (.slice (some ⟨I,0,none⟩) 1 1)=some (1,ints [(a:Int)]):=(by simp only [aR];rw [S.lds (b:=I) (o:=0) (n:=1*1) m0 (lbt rfl)];rfl);replace S:=S.drop1;refine dT (S.grow (j:=1) (m:=1) (new:=ints [(a:Int)]) rfl t41.1 XI (by decide) t41.2.2.2.2.2 f rfl (by decide) rfl (by rw [cC,cC];simp;omega)) ?_;clear S f;rintro E d S;simp only [LC]at S;rw [<-iO]at S;simp only [BZ,t,w,seval];refine W (i+1) _ _ (by omega) ⟨by omega,d,C,_,ks,S,G a ks C d g E (by unfold qo;rw [ps]) (by unfold qc;rw [ps]) S,by simp [lo],by omega,by simp [aB,s,B]⟩
         . simp only [BZ];refine ao (av rfl) (q:=0) (ps:=[]) (by kernel_rfl) ?_;simp only [BZ,cls,s,B,t,M,N.lenq,aE,y,Z,H,P,D,O,wa,seval];refine Q (a+1) _ _ (by omega) ⟨rfl,by omega,fun j F af=>?_,by simp [aB,s,A,B,t]⟩;by_cases e:j=a
           . subst e;exact O
           . exact R j F (by omega)
       . have ea:a=ks.length:=(by omega);subst ea;have ps:=pos_no (ks:=ks) (x:=x) (fun j F=>R j F F);simp only [BZ];refine ao (av rfl) (q:=0) (ps:=[]) (by kernel_rfl) ?_;simp only [BZ,cls,aa,s,A,B,t,M,N.lenq,aE,y,P,D,seval];refine ab (bZ (by exact t41.1) (by exact XI) (by decide) (by rfl)) S ?_;clear S;intro h I S J;simp only [LC,bJ,cd,ac,XJ,Xs,XE,XO,seval]at S;simp only [BZ,seval];have f:aR h 1 (.slice (some ⟨I,0,none⟩) 1 1)=some (1,ints [x]):=(by simp only [aR];rw [S.lds (b:=I) (o:=0) (n:=1*1) m0 (lbt rfl)];rfl);replace S:=S.drop1;refine dT (S.grow (j:=0) (m:=1) (new:=ints [x]) rfl t41.1 XI (by decide) t41.2.2.2.2.2 f rfl (by decide) rfl (by rw [cC,cC];simp;omega)) ?_;clear S f;rintro E u S;simp only [LC]at S;rw [<-iO]at S;simp only [BZ,A,M,seval];refine ab (bZ (by exact t41.1) (by exact XI) (by decide) (by rfl)) S ?_;clear S;intro h bu S ad;simp only [LC,bJ,cd,ac,XJ,Xs,XE,XO,seval]at S;simp only [BZ,seval];have f:aR h 1 (.slice (some ⟨bu,0,none⟩) 1 1)=some (1,ints [((ks.length:Nat):Int)]):=(by simp only [aR];rw [S.lds (b:=bu) (o:=0) (n:=1*1) m0 (lbt rfl)];rfl);replace S:=S.drop1;refine dT (S.grow (j:=1) (m:=1) (new:=ints [((ks.length:Nat):Int)]) rfl t41.1 XI (by decide) t41.2.2.2.2.2 f rfl (by decide) rfl (by rw [cC,cC];simp;omega)) ?_;clear S f;rintro E d S;simp only [LC]at S;rw [<-iO]at S;simp only [BZ,t,w,seval];refine W (i+1) _ _ (by omega) ⟨by omega,d,u,_,_,S,G ks.length _ u d g E (by unfold qo;rw [ps]) (by unfold qc;rw [ps]) S,by simp [lo],by simp;omega,by simp [aB,s]⟩
     . exact⟨rfl,Xe _,fun j F h=>absurd h (by omega),by simp [aB,s,A,B,t]⟩
   . have V:i=l.length:=(by omega);simp only [BZ,aa,s,A,t,K.lenq,aE,hlt,seval];rw [V,List.drop_length,norm,Xh]at hnm;rw [hnm];exact⟨S.gr,(S.gown _ m1).1.sl rfl (fun _=>rfl) (by decide),fun c hc=>((S.gblk m1 hc).1).elim (fun h=>h) (fun h=>h.elim)⟩
 . exact⟨Xe _,_,_,[],[],S,rfl,rfl,Xz _,by simp [aB,cL]⟩
def TabY(h:Hp)(k:Nat)(b:Prop)(p:Value)(a:Gra):Option Tab->Prop
 |none=>p=.pointer none|some T=>(∃m,k<m/\TabAt h m p a.nodes T.l (kX T.to) (kX T.fr))/\TabL a.nodes T/\T.l.length<=4/\iZ a.nodes T.l/\(b-> ∀i,i<T.l.length->kX T.to i=toR a T.l i/\kX T.fr i=frR a T.l i)
def CelY(h:Hp)(i:Prop)(b d:Value)(a:Gra):Option (List Int×Bs)->Prop
 |none=>b=.pointer none/\d=.pointer none|some (m,F)=>CelM h b d a m F/\ ∃j e k f l c g,b=ptrTo k/\d=ptrTo f/\ia h j b a.nodes m e/\ic m+1=((c:Nat):Int)/\c<=100/\eJ h f l c a.arcs.length ((a.arcs.length+7)/8) g/\(i->OkB a e ((a.arcs.length+7)/8) c 0 g)
def nj(h:Hp)(b:Nat)(I:Img)(f g:Prop):Prop:=Good I.g/\ ∃a c d e i,Row h b [ptrTo a,c,d,e] 1/\aP h i (ptrTo a) I.g/\TabY h 0 f c I.g I.T/\CelY h g d e I.g I.C
theorem b_andB2{t:TypeId}{p:Operand}{x:Nat}(h:x<256):ce E .and t p q (.int .u8 (x:Int)) (.int .u8 1)=some (.int .u8 ((x%2:Nat):Int)):=by rw [<-Nat.and_one_is_mod];exact b_andN (k:=.u8) (x:=x) (y:=1) rfl (by simp only [pw];omega) (by decide)
theorem Al{j:Nat}(g:a<=255)(b:j<8){t:TypeId}{p:Operand}:ce E .and t p q (.int .u8 (a:Int)) (.int .u8 ((2 ^j:Nat):Int))=some (.int .u8 ((if a/2 ^j%2=1 then 2 ^j else 0:Nat):Int)):=by
 have h:=b_andN (E:=E) (t:=t) (p:=p) (q:=q) (k:=.u8) (x:=a) (y:=2 ^j) rfl (by simp only [pw];omega) (pow8 b);rw [h];congr 2;have:a&&& 2 ^j=if a/2 ^j%2=1 then 2 ^j else 0:=by
  refine Nat.eq_of_testBit_eq fun i=>?_;rw [Nat.testBit_and,Nat.testBit_two_pow];have c:a.testBit j=decide (a/2 ^j%2=1):=Nat.testBit_eq_decide_div_mod_eq ..
  by_cases e:j=i
  . subst e;rw [c];by_cases d:a/2 ^j%2=1<;>simp [d]
  . have f: ¬i=j:=fun h=>e h.symm
    split<;>simp [Nat.testBit_two_pow,e,f]
 rw [this]
theorem TabY.mo{M:Nat->Prop}{h h':Hp}{k:Nat}{d:Prop}{e:Gra}{p:Value}{T:Option Tab}(t:TabY h k d p e T)(g:Mo M h h')(f: ∀b,M b->b<=k):TabY h' k d p e T:=by
 cases T with
 |none=>exact t| some T=>
   obtain⟨⟨m,a,b⟩,c⟩:=t;exact⟨⟨m,a,b.mo g (fun x i=>by have:=f x i;omega)⟩,c⟩
theorem TabY.fl{a:Prop}{c:Gra}{T:Option Tab}(t:TabY h k a p c T):Fl p:=by
 cases T with
 |none=>have t:p=.pointer none:=t;subst t;exact bA|some T=>obtain⟨⟨m,_,b⟩,_⟩:=t;obtain⟨_,_,_,_,rfl,_⟩:=b.ex;exact bA
def tt(O:List Int)(i:Nat):Int:=if O.length=0 then 0 else(O.getD (i%O.length) 0).tmod 4
theorem made32_ok(ok:OZ h0){vB vO vM vN q5 q6 q7:Value}{B O ms W:List Int}(hB:SlW h0 .u8 vB B)(hO:SlW h0 .u8 vO O)(cO: ∀x∈O,0<=x/\x<=255)(hM:SlW h0 .u8 vM ms)(cv: ∀x∈ms,0<=x/\x<=255)(hN:SlW h0 .i64 vN W)(cN: ∀x∈W,-9223372036854775808<=x/\x<=9223372036854775807)(hh:a<=255):Ret zM 8 [.agg ⟨[vB,vO,vM,.int .u8 (a:Nat),vN,q5,q6,q7]⟩] h0 fun r h'=>Gr h0 h'/\ ∃b I,r=ptrTo b/\nj h' b I (a/4%2=0) (a/8%2=0)/\I.T.isSome=decide (a%2=1)/\I.C.isSome=decide (a/2%2=1):=by
 have S:=Si ok;have fB:=hB.sl.fl;have fO:=hO.sl.fl;have fM:=hM.sl.fl;have fN:=hN.sl.fl;have mn:min (B.length:Int) 50=((min B.length 50:Nat):Int):=by omega
 obtain⟨b3,cx,sB,bB⟩:=hB.low (kd':=.i64) (n:=min B.length 50) t22.1 Tryz.t5.2.2.1 (Nat.min_le_left _ _);have cA:=sB.fl;refine erA (n:=278) (rs:=[.tmp 2]) Tryz.e8 ?_;simp only [BZ,seval];refine ab (aW (by intro x e;cases e)) S ?_;clear S;intro h A S ee;simp only [ac]at S;simp only [BZ,XU,Yb,hB.sl.lenq,mn,cx,cA,S.ld (b:=A) (o:=0) m0 rfl,seval];refine ab (aW (by intro x e;cases e)) S ?_;clear S;intro h bd S b5;simp only [ac]at S;have cT:aw h 1 (encI .u8) b3 (B.take (min B.length 50)):=sB.gr S.gr;have nB: ¬ar b3 bd:=fun L=>by have:=sB.lt ok L;omega
 have cW:(B.take (min B.length 50)).length<1000000:=by rw [X6];omega
 simp only [BZ,seval];have k0:=S.fr.n;have ap:=S.apart;simp only [keys,Xm,Xt,Xo,Xh,XV,Xw,Xr,or_false,not_or]at ap;have en:=(S.row (b:=A) m1).lt S.ok;refine step_ret (raw_ok S.ok (S.row m0) ⟨cT,nB,cW,by omega⟩) ?_;rintro v h ⟨fr,u,vx,vy,va,rfl,af,ga,hz⟩;have n1:=af.n1;have n2:=af.n2;replace S:=S.drop1.step fr (fun c L=>by subst L;exact .inr b5) (fun c L e=>by simp [keys]at L;omega);have fx:=ga.X.fl;have fy:=ga.Y.fl;have fa:=ga.A.fl;have gS:=S.gr;have S0:=S;replace S:=S.base;simp only [BZ,ni];refine ab au S ?_;clear S;intro h D S ef;simp only [BZ,seval];refine az (stA S (i:=0) t57.2.1 (by simp only [ac,XA,XD,fx.2.1,fy.2.1,fa.2.1,Xa];rfl)) ?_;clear S;rintro h ⟨S,Z⟩;simp only [LC,ac,lay,Xc,Xd,seval]at S;have cY:=ga.mo S.fr (fun c L Y=>by have:=hz c L;simp [keys]at Y;omega);simp only [BZ,Xp,Xi,Xv,S.lds (b:=D) (o:=0) (n:=4) m0 (lbt rfl),seval];have q4:=(S.row (b:=D) m0).lt S.ok;have q1:=(S.row (b:=A) m1).lt S.ok;refine step_ret (netNew_ok S.ok af.b cY) ?_;rintro v h ⟨p,rfl,g,hp⟩;replace S:=S.call g;obtain⟨P,rfl⟩:=hp.ptr;replace S:=S0.rebase S;have ay:=S.gr;have ep:=S.ok;clear S0;replace S:=S.base;simp only [LC,keys,Xm,Xt,Xo]at S;rename Hp=>hC0;have z4:=(S.row (b:=D) m0).lt S.ok;have z1:=(S.row (b:=A) m1).lt S.ok;simp only [BZ,seval];refine ab (aW (by intro x e;cases e)) S ?_;clear S;intro h F S b6;simp only [ac]at S;have d1:decide (((a%2:Nat):Int)=1)=decide (a%2=1):=decide_eq_decide.2 (by omega);have a2: ∀(t:TypeId) (p q:Operand),ce zM .and t p q (.int .u8 (a:Nat)) (.int .u8 2)=some (.int .u8 ((if a/2%2=1 then 2 else 0:Nat):Int)):=fun t p q=>Al hh (j:=1) (by decide);have d2:decide (((if a/2%2=1 then 2 else 0:Nat):Int)=2)=decide (a/2%2=1):=decide_eq_decide.2 (by split<;>omega);have a4: ∀(t:TypeId) (p q:Operand),ce zM .and t p q (.int .u8 (a:Nat)) (.int .u8 4)=some (.int .u8 ((if a/4%2=1 then 4 else 0:Nat):Int)):=fun t p q=>Al hh (j:=2) (by decide);have d4:decide (((if a/4%2=1 then 4 else 0:Nat):Int)=4)=decide (a/4%2=1):=decide_eq_decide.2 (by split<;>omega);have a8: ∀(t:TypeId) (p q:Operand),ce zM .and t p q (.int .u8 (a:Nat)) (.int .u8 8)=some (.int .u8 ((if a/8%2=1 then 8 else 0:Nat):Int)):=fun t p q=>Al hh (j:=3) (by decide);have d8:decide (((if a/8%2=1 then 8 else 0:Nat):Int)=8)=decide (a/8%2=1):=decide_eq_decide.2 (by split<;>omega);have n7:=b6;have nb: ∀c,c<h0.n-> ¬c∈[D,A]:=fun c L Y=>by simp only [Xw,Xr,or_false]at Y;have:=gS.n;omega
 have c2: ∀c,c∈[D,A]->h0.n<=c:=fun c Y=>by simp only [Xw,Xr,or_false]at Y;have:=gS.n;omega
 have c4: ∀c,ar vM c->c<h0.n:=fun c L=>hM.sl.lt ok L;have c5: ∀c,ar vO c->c<h0.n:=fun c L=>hO.sl.lt ok L;have br: ∀c,ar vN c->c<h0.n:=fun c L=>hN.sl.lt ok L;have bi: ∀{N:Hp},Mo (· ∈[D,A]) hC0 N->aP N _ (ptrTo P) u:=fun f=>hp.mo f (fun c Y=>by simp only [Xw,Xr,or_false]at Y;omega);simp only [BZ,b_andB2 (show a<256 by omega),d1,S.ld (b:=A) (o:=3) m2 rfl,seval];refine uq (fun s h'=> ∃pt T,St (· ∈[D,A]) hC0 h' [(F,.row [ptrTo P,pt,.pointer none,.pointer none] 1),(D,.row [.int .i64 u.nodes,vx,vy,va] 1),(A,.row [vB,vO,vM,.int .u8 (a:Nat),vN,q5,q6,q7] 1)] []/\TabY h' F (a/4%2=0) pt u T/\T.isSome=decide (a%2=1)/\s 1=ptrTo A/\s 4=ptrTo D/\s 5=ptrTo P/\s 7=ptrTo F) ?_ ?_ ?_
 . intro a1;have c6:(u.nodes:Int)≠0:=(by omega);have da:am .u8 ((a:Int).tdiv 16)=((a/16:Nat):Int):=(by rw [Yq (by omega),show(a:Int)/16=((a/16:Nat):Int) by omega];exact yB rfl (by simp only [pw];omega));have db:am .i64 ((a/16:Nat):Int)=((a/16:Nat):Int):=(by rw [wrap64]<;>omega);have b8:((a/16:Nat):Int).tmod (u.nodes:Int)=((a/16%u.nodes:Nat):Int):=(by rw [Xn (by omega)];exact(XK _ _).symm);have er:a/16%u.nodes<u.nodes:=Ye _ (by omega);simp only [BZ,jJ,cZ,jM,mV (n:=16) (by decide),da,db,j8 c6,b8,S.ld (b:=A) (o:=3) m2 rfl,S.ld (b:=D) (o:=0) m1 rfl,seval];generalize es:((a/16%u.nodes:Nat):Int)=x0;have bq:0<=x0/\x0<u.nodes:=(by omega);refine ab (bZ (by exact t41.1) (by exact XI) (by decide) (by rfl)) S ?_;clear S;intro h bt S ei;simp only [LC,bJ,cd,ac,XJ,Xs,XE,XO,seval]at S;simp only [BZ,seval];refine tW (fun s h'=> ∃(X:Value) (l:List Int) (G:List GL),St (· ∈[D,A]) hC0 h' [(bt,.row [.int .i64 x0] 1),(F,.row [ptrTo P,.pointer none,.pointer none,.pointer none] 1),(D,.row [.int .i64 u.nodes,vx,vy,va] 1),(A,.row [vB,vO,vM,.int .u8 (a:Nat),vN,q5,q6,q7] 1)] G/\((G=[]/\X=.slice (some ⟨bt,0,none⟩) 1 1/\l=[x0])\/G=[(X,1,ints l)])/\iZ u.nodes l/\1<=l.length/\l.length<=4/\s 1=ptrTo A/\s 4=ptrTo D/\s 5=ptrTo P/\s 7=ptrTo F/\s 8=X)
    (fun(i:Nat) s h'=>i<=ms.length/\i<=3/\ ∃(X:Value) (l:List Int) (G:List GL),St (· ∈[D,A]) hC0 h' [(bt,.row [.int .i64 x0] 1),(F,.row [ptrTo P,.pointer none,.pointer none,.pointer none] 1),(D,.row [.int .i64 u.nodes,vx,vy,va] 1),(A,.row [vB,vO,vM,.int .u8 (a:Nat),vN,q5,q6,q7] 1)] G/\((G=[]/\X=.slice (some ⟨bt,0,none⟩) 1 1/\l=[x0])\/G=[(X,1,ints l)])/\iZ u.nodes l/\1<=l.length/\l.length<=i+1/\s 1=ptrTo A/\s 4=ptrTo D/\s 5=ptrTo P/\s 7=ptrTo F/\s 8=X/\s 9=.int .i64 i) (fun i=>ms.length-i) ?_ ?_ 0 ⟨Xe _,Xe _,_,[x0],[],S,.inl ⟨rfl,rfl,rfl⟩,(mayL_nil _).push (by simp) bq.1 bq.2 (by simp),Xz _,by simp,by simp [aB,ah]⟩
   . clear S;intro i ih s h' ⟨V,hi3,X,l,G,S,hG,hl,hl0,hli,E,H,J,r7,r8,r9⟩;have b9:=(hM.sl.gr ay).mo S.fr (fun c L=>nb c (c4 c L));have aL: ∀(n:Nat) (d:List Deferred) (rc:Option (Value×Bool)) (ax:Nat->Value),ax 1=ptrTo A->ax 4=ptrTo D->ax 5=ptrTo P->ax 7=ptrTo F->ax 8=X->JP n d rc (fun s h'=> ∃(X:Value) (l:List Int) (G:List GL),St (· ∈[D,A]) hC0 h' [(bt,.row [.int .i64 x0] 1),(F,.row [ptrTo P,.pointer none,.pointer none,.pointer none] 1),(D,.row [.int .i64 u.nodes,vx,vy,va] 1),(A,.row [vB,vO,vM,.int .u8 (a:Nat),vN,q5,q6,q7] 1)] G/\((G=[]/\X=.slice (some ⟨bt,0,none⟩) 1 1/\l=[x0])\/G=[(X,1,ints l)])/\iZ u.nodes l/\1<=l.length/\l.length<=4/\s 1=ptrTo A/\s 4=ptrTo D/\s 5=ptrTo P/\s 7=ptrTo F/\s 8=X) .normal (LL n ax d rc) h':=fun n d rc ax e1 e4 e5 e7 e8=>dL ⟨X,l,G,S,hG,hl,hl0,by omega,e1,e4,e5,e7,e8⟩;have sR:aw h' 1 (encI .i64) X l:=by
      rcases hG with⟨_,rfl,rfl⟩|rfl
      . exact .inr ⟨bt,0,none,1,rfl,Xz _,S.lds (b:=bt) (o:=0) (n:=1*1) m0 (lbt rfl)⟩
      . exact(S.gown _ m0).1.sl rfl (fun _=>rfl) (by decide)
     by_cases hlt:i<ms.length
     . by_cases h3:i<3
       . have c3:(i:Int)<3:=(by omega);obtain⟨c,o,a3,bk⟩:=b9.ix (kd:=.i64) (bR .u8) hlt;have hx:=cv _ (XC hlt);obtain⟨x,ex⟩: ∃x:Nat,ms[i]=x:=⟨ms[i].toNat,by omega⟩;rw [ex]at bk hx;have nz:(u.nodes:Int)≠0:=(by omega);have wc:am .i64 (x:Int)=(x:Int):=(by rw [wrap64]<;>omega);have tm:(x:Int).tmod (u.nodes:Int)=((x%u.nodes:Nat):Int):=(by rw [Xn (by omega)];exact(XK _ _).symm);have ai:x%u.nodes<u.nodes:=Ye _ (by omega);have w:am .i64 ((i:Int)+1)=((i+1:Nat):Int):=(by rw [wrap64]<;>omega);simp only [BZ,E,r9,hM.sl.lenq,aE,hlt,c3,S.ld (b:=A) (o:=2) m3 rfl,seval];refine ao (av rfl) (q:=0) (ps:=[]) (by kernel_rfl) ?_;simp only [BZ,jJ,cZ,jM,cls,E,H,r9,a3,bk,encI,wc,j8 nz,tm,S.ld (b:=D) (o:=0) m2 rfl,S.ld (b:=A) (o:=2) m3 rfl,seval];generalize x%u.nodes=v at ai;clear b9;refine aX (fun(k:Nat) s N=>k<=l.length/\N=h'/\s 1=ptrTo A/\s 4=ptrTo D/\s 5=ptrTo P/\s 7=ptrTo F/\s 8=X/\s 9=.int .i64 i/\s 10=.int .i64 v/\s 11=.bool (decide ((v:Int)∈l.take k))/\s 12=.int .i64 k) (fun k=>l.length-k) ?_ 0 _ _ ⟨Xe _,rfl,by simp [aB,E,ah,H,J,r7,r8,r9]⟩;clear E H J r7 r8 r9;rintro k ca s N ⟨hk,rfl,E,H,J,r7,r8,r9,bl,ad,bn⟩;have wk:am .i64 ((k:Int)+1)=((k+1:Nat):Int):=(by rw [wrap64]<;>omega);by_cases a0:k<l.length
         . have tk:l.take (k+1)=l.take k++[l[k]]:=Xy a0;by_cases Y:(v:Int)∈l.take k
           . rw [decide_eq_true Y]at ad;have dc:(v:Int)∈l.take (k+1):=(by rw [tk];exact Xf _ Y);simp only [BZ,r8,ad,bn,sR.lenq,aE,a0,wk,seval];exact ca (k+1) _ _ (by omega) ⟨by omega,rfl,by simp [aB,E,ah,H,J,r7,r8,r9,bl,dc]⟩
           . rw [decide_eq_false Y]at ad;obtain⟨c1,o1,i1,y1⟩:=sR.ix (kd:=.i64) (bR .i64) a0;have m2:decide (l[k]=(v:Int))=decide ((v:Int)∈l.take (k+1)):=decide_eq_decide.2 ⟨fun he=>by rw [tk,he];exact Xq _ (List.mem_singleton.2 rfl),fun h=>by
              rw [tk]at h;rcases List.mem_append.1 h with h|h
              . exact absurd h Y
              . exact(List.mem_singleton.1 h).symm⟩
             simp only [BZ,r8,bl,ad,bn,sR.lenq,aE,a0,wk,i1,y1,encI,m2,seval];exact ca (k+1) _ _ (by omega) ⟨by omega,rfl,by simp [aB,E,ah,H,J,r7,r8,r9,bl]⟩
         . have ek:k=l.length:=(by omega);subst ek;rw [XZ]at ad;by_cases Y:(v:Int)∈l
           . rw [decide_eq_true Y]at ad;simp only [BZ,r8,r9,ad,bn,sR.lenq,aE,a0,w,seval];exact ih (i+1) _ _ (by omega) ⟨by omega,by omega,X,l,G,S,hG,hl,hl0,by omega,by simp [aB,E,ah,H,J,r7,r8]⟩
           . rw [decide_eq_false Y]at ad;simp only [BZ,r8,r9,bl,ad,bn,sR.lenq,aE,a0,seval];refine ab (bZ (by exact t41.1) (by exact XI) (by decide) (by rfl)) S ?_;clear S;intro h bu S el;simp only [LC,bJ,cd,ac,XJ,Xs,XE,XO,seval]at S;simp only [BZ,seval];have bv:aR h 1 (.slice (some ⟨bu,0,none⟩) 1 1)=some (1,ints [(v:Int)]):=(by simp only [aR];rw [S.lds (b:=bu) (o:=0) (n:=1*1) m0 (lbt rfl)];rfl);replace S:=S.drop1;have cc: ∃h3 v',dS zM h [41,41] X (.slice (some ⟨bu,0,none⟩) 1 1)=some (h3,v')/\St (· ∈[D,A]) hC0 h3 [(bt,.row [.int .i64 x0] 1),(F,.row [ptrTo P,.pointer none,.pointer none,.pointer none] 1),(D,.row [.int .i64 u.nodes,vx,vy,va] 1),(A,.row [vB,vO,vM,.int .u8 (a:Nat),vN,q5,q6,q7] 1)] [(v',1,ints (l++[(v:Int)]))]:=by
              rcases hG with⟨rfl,rfl,rfl⟩|rfl
              . rw [iO];exact St.growB S (b:=bt) (len:=1) (m:=1) (new:=ints [(v:Int)]) (S.row m0) rfl t41.1 XI (by decide) t41.2.2.2.2.2 bv rfl (by decide) (by decide) (by rw [cC];exact lbt rfl)
              . rw [iO];exact S.grow (j:=0) (m:=1) (new:=ints [(v:Int)]) rfl t41.1 XI (by decide) t41.2.2.2.2.2 bv rfl (by decide) rfl (by rw [cC,cC];simp;omega)
             refine dT cc ?_;clear S bv hG cc sR aL;rintro h dd S;simp only [BZ,r9,w,seval];exact ih (i+1) _ _ (by omega) ⟨by omega,by omega,dd,l++[(v:Int)],_,S,.inr rfl,hl.push (by omega) (by omega) (by omega) Y,by simp,by simp;omega,by simp [aB,E,ah,H,J,r7]⟩
       . have c3: ¬(i:Int)<3:=(by omega);simp only [BZ,E,r9,hM.sl.lenq,aE,hlt,c3,S.ld (b:=A) (o:=2) m3 rfl,seval];exact aL _ _ _ _ (by simp [aB,E,ah]) (by simp [aB,H,ah]) (by simp [aB,J,ah]) (by simp [aB,r7,ah]) (by simp [aB,r8])
     . simp only [BZ,E,r9,hM.sl.lenq,aE,hlt,S.ld (b:=A) (o:=2) m3 rfl,seval];exact aL _ _ _ _ (by simp [aB,E,ah]) (by simp [aB,H,ah]) (by simp [aB,J,ah]) (by simp [aB,r7,ah]) (by simp [aB,r8])
   clear S;intro s h' ⟨X,l,G,S,hG,hl,hl0,hl4,E,H,J,r7,r8⟩;have sR: ∀{x:Hp} {L':List (Nat×Ob)} {G':List GL},St (· ∈[D,A]) hC0 x L' G'->(bt,Ob.row [.int .i64 x0] 1)∈L'->(∀p∈G,p∈G')->aw x 1 (encI .i64) X l:=fun {x L' G'} U hL de=>by
    rcases hG with⟨_,rfl,rfl⟩|rfl
    . exact .inr ⟨bt,0,none,1,rfl,Xz _,U.lds (b:=bt) (o:=0) (n:=1*1) hL (lbt rfl)⟩
    . exact ij.sl (xs:=l) (enc:=encI .i64) (U.gown (X,1,ints l) (de _ m0)).1 rfl (fun _=>rfl) (by decide)
   have l1:1<=l.length:=hl0;have fR:Fl X:=(sR S m0 (fun p hp=>hp)).fl;have k7: ∀{x:Hp} {L':List (Nat×Ob)} {G':List GL} {o:Ob},St (· ∈[D,A]) hC0 x L' G'->(F,o)∈L'->F<x.n:=fun U Y=>(U.own _ Y).2.lt U.ok;have kb: ∀c,c∈[D,A]->c<=F:=fun c Y=>(by simp only [Xw,Xr,or_false]at Y;omega);simp only [BZ,J,r7,r8,seval];refine step_ret (tabOf_ok S.ok af (bi S.fr) (sR S m0 (fun p hp=>hp)) (by omega)) ?_;rintro pt h ⟨g,hT⟩;replace hT:=(hT.resolve_left (fun h=>h.1 hl)).2;have kn:=k7 S m1;replace S:=S.call g;have own: ∀i,i<l.length->iC u.nodes (toR u l i)/\iC u.nodes (frR u l i):=fun i V=>ownRows S.ok af (bi S.fr) hl V;have tY:TabY h F (a/4%2=0) pt u (some (tabL l (toR u l) (frR u l))):=⟨⟨_,kn,tabL_at hT⟩,tabL_L hl (by omega) l1 (fun i V=>(own i V).1) (fun i V=>(own i V).2),hl4,hl,fun _ i V=>⟨lO V,lO V⟩⟩;have bx:=tY.fl;simp only [BZ,seval];refine az (aA S (i:=1) rfl t32.2.2.1 bx (Xb (lbt rfl)) ono) ?_;clear S hT;rintro h ⟨S,Z⟩;simp only [LC,ac,lay,Xc,Xd,seval]at S;replace tY:=tY.mo Z (fun b e=>Nat.le_of_eq e);have dj: ∃b,pt=ptrTo b:=(by obtain⟨⟨m,_,x⟩,_⟩:=tY;obtain⟨b,_,_,_,e,_⟩:=x.ex;exact⟨b,e⟩);obtain⟨bT,rfl⟩:=dj;by_cases h4:a/4%2=1/\0<W.length
   . obtain⟨h4,hz⟩:=h4;have cN:(0<(W.length:Int))=True:=eq_true (by omega);have e4:decide (a/4%2=1)=true:=decide_eq_true h4;simp only [BZ,E,r7,a4,d4,e4,hN.sl.lenq,cN,S.ld (b:=A) (o:=3) m3 rfl,S.ld (b:=A) (o:=4) m3 rfl,S.ld (b:=F) (o:=1) m1 rfl,seval];obtain⟨⟨mT,_,tA⟩,tL,_⟩:=tY;have em: ∀i,i<l.length->iC u.nodes (toR u l i)/\iC u.nodes (frR u l i):=own;replace tA:TabAt _ mT (ptrTo bT) u.nodes l (toR u l) (frR u l):=tA.congr (fun i V=>lO V) (fun i V=>lO V);obtain⟨nB,bE⟩: ∃n,n=h.n:=⟨_,rfl⟩;have kS: ∀c∈keys [(bt,.row [.int .i64 x0] 1),(F,.row [ptrTo P,ptrTo bT,.pointer none,.pointer none] 1),(D,.row [.int .i64 u.nodes,vx,vy,va] 1),(A,.row [vB,vO,vM,.int .u8 (a:Nat),vN,q5,q6,q7] 1)] G,c<nB:=fun c L=>(by rw [bE];exact S.key_lt L);have gN:hC0.n<=nB:=(by rw [bE];exact S.fr.n);refine step_ret (Fb S.ok tA (by omega) (fun i V=>by rw [(own i V).1.1];omega) (fun i V=>by rw [(own i V).2.1];omega)) ?_;rintro _ h ⟨g,vT,vF,kk,rfl,DT,DF,y1,y2⟩;rw [<-bE]at DT y1;obtain⟨nE,dm⟩: ∃n,n=h.n:=⟨_,rfl⟩;rw [<-dm]at DF y2;replace S:=S.call g;obtain⟨ta,tn,tc,eT⟩:=DT.form;obtain⟨fa,fn,fc,eF⟩:=DF.form;simp only [BZ,seval];refine aX (fun(i:Nat) s N=>i<=l.length/\ ∃(R Q:Nat->List Int),St (· ∈[D,A]) hC0 N [(bt,.row [.int .i64 x0] 1),(F,.row [ptrTo P,ptrTo bT,.pointer none,.pointer none] 1),(D,.row [.int .i64 u.nodes,vx,vy,va] 1),(A,.row [vB,vO,vM,.int .u8 (a:Nat),vN,q5,q6,q7] 1)] G/\LLD N nB kk vT l.length R/\LLD N kk nE vF l.length Q/\(∀i,i<l.length->iC u.nodes (R i)/\iC u.nodes (Q i))/\s 1=ptrTo A/\s 4=ptrTo D/\s 5=ptrTo P/\s 7=ptrTo F/\s 8=X/\s 13=vT/\s 14=vF/\s 15=.int .i64 i) (fun i=>l.length-i) ?_ 0 _ _ ⟨Xe _,_,_,S,DT,DF,own,by simp [aB,E,ah,H,J,r7,r8]⟩;clear S DT DF E H J r7 r8 g Z;intro i ih s N ⟨V,R,Q,S,DT,DF,hRQ,E,H,J,r7,r8,r13,r14,r15⟩;have w:am .i64 ((i:Int)+1)=((i+1:Nat):Int):=(by rw [wrap64]<;>omega);by_cases hlt:i<l.length
     . simp only [BZ,r8,r15,(sR S m0 (fun p hp=>hp)).lenq,aE,hlt,seval];refine aX (fun(v:Nat) s N=>v<=u.nodes/\ ∃(R Q:Nat->List Int),St (· ∈[D,A]) hC0 N [(bt,.row [.int .i64 x0] 1),(F,.row [ptrTo P,ptrTo bT,.pointer none,.pointer none] 1),(D,.row [.int .i64 u.nodes,vx,vy,va] 1),(A,.row [vB,vO,vM,.int .u8 (a:Nat),vN,q5,q6,q7] 1)] G/\LLD N nB kk vT l.length R/\LLD N kk nE vF l.length Q/\(∀i,i<l.length->iC u.nodes (R i)/\iC u.nodes (Q i))/\s 1=ptrTo A/\s 4=ptrTo D/\s 5=ptrTo P/\s 7=ptrTo F/\s 8=X/\s 13=vT/\s 14=vF/\s 15=.int .i64 i/\s 16=.int .i64 v) (fun v=>u.nodes-v) ?_ 0 _ _ ⟨Xe _,_,_,S,DT,DF,hRQ,by simp [aB,E,ah,H,J,r7,r8,r13,r14,r15]⟩;clear S DT DF hRQ E H J r7 r8 r13 r14 r15 R Q;intro v dn s N ⟨hv,R,Q,S,DT,DF,hRQ,E,H,J,r7,r8,r13,r14,r15,r16⟩;have wv:am .i64 ((v:Int)+1)=((v+1:Nat):Int):=(by rw [wrap64]<;>omega);by_cases ch:v<u.nodes
       . have a5:=(hN.sl.gr ay).mo S.fr (fun c L=>nb c (br c L));have c0:(0:Int)<(W.length:Int):=(by omega);have cj:(W.length:Int)≠0:=(by omega);have w1:am .i64 ((i:Int)+(v:Int))=((i+v:Nat):Int):=(by rw [wrap64]<;>omega);have w2:am .i64 (3*(i:Int))=((3*i:Nat):Int):=(by rw [wrap64]<;>omega);have w4:am .i64 (2*(v:Int))=((2*v:Nat):Int):=(by rw [wrap64]<;>omega);have w3:am .i64 (((3*i:Nat):Int)+((2*v:Nat):Int))=((3*i+2*v:Nat):Int):=(by rw [wrap64]<;>omega);have dq:((i+v:Nat):Int).tmod (W.length:Int)=(((i+v)%W.length:Nat):Int):=(by rw [Xn (Int.natCast_nonneg _)];exact(XK _ _).symm);have ds:((3*i+2*v:Nat):Int).tmod (W.length:Int)=(((3*i+2*v)%W.length:Nat):Int):=(by rw [Xn (Int.natCast_nonneg _)];exact(XK _ _).symm);simp only [BZ,H,r16,aE,ch,S.ld (b:=D) (o:=0) m2 rfl,seval];refine ao (av rfl) (q:=0) (ps:=[]) (by kernel_rfl) ?_;have bP:R i≠ []:=fun e=>(by have:=(hRQ i hlt).1;rw [e]at this;have:=this.1;simp at this;omega);obtain⟨c,⟨q,o,e1,e2⟩,a6,dt,dv,a7⟩:=DT.at hlt bP;have ba:=(hRQ i hlt).1.1;have iv:nw (some 1) (.slice (some ⟨c,0,some 1⟩) (R i).length (R i).length) (.int .i64 (v:Nat))=some (.pointer (some ⟨c,v,none⟩)):=(by rw [pk,iQ (by omega),uU,Xs,XE]);obtain⟨cn,on,bb,ak⟩:=a5.ix (kd:=.i64) (bR .i64) (Ye (i+v) (show 0<W.length by omega));generalize W[(i+v)%W.length]'(Ye (i+v) (by omega))=z at ak;simp only [BZ,cls,E,r13,r15,r16,hN.sl.lenq,j8 cj,w1,dq,e1,e2,bb,ak,encI,iv,S.ld (b:=A) (o:=4) m3 rfl,seval];have T:=St.init1 S.ok (o:=.row (ints (R i)) 1) a6;refine cJ (aA T (i:=0) rfl Tryz.t2.2.2.1 aM (by rw [cC];omega) ono) ?_;clear T;rintro h3 ⟨T,Z⟩;simp only [Ya,ints_set]at T;have kc: ∀b∈keys [(bt,.row [.int .i64 x0] 1),(F,.row [ptrTo P,ptrTo bT,.pointer none,.pointer none] 1),(D,.row [.int .i64 u.nodes,vx,vy,va] 1),(A,.row [vB,vO,vM,.int .u8 (a:Nat),vN,q5,q6,q7] 1)] G,b≠c:=fun b hb e=>(by have:=kS b hb;omega);replace S:=S.step Z (fun b e=>.inr (by have e:b=c:=e;omega)) (fun b hb e=>kc b hb e);have D1:=a7 _ _ Z (Yc ..) (T.row m0);have D2:=DF.mo Z (fun b e=>by have e:b=c:=e;omega);have bc:iC u.nodes ((R i).set v (min (max z 0) 72057594037927936)):=⟨by rw [Yc];exact ba,fun x hx=>by
          rcases Ys hx with h|h
          . exact(hRQ i hlt).1.2 x h
          . omega⟩
         clear DT DF T a7 a6 e2;simp only [BZ,seval];have dx:=bc;have a5:=(hN.sl.gr ay).mo S.fr (fun c L=>nb c (br c L));refine ao (av rfl) (q:=0) (ps:=[]) (by kernel_rfl) ?_;have bP:Q i≠ []:=fun e=>(by have:=(hRQ i hlt).2;rw [e]at this;have:=this.1;simp at this;omega);obtain⟨c,⟨q,o,e1,e2⟩,a6,dt,dv,a7⟩:=D2.at hlt bP;have ba:=(hRQ i hlt).2.1;have iv:nw (some 1) (.slice (some ⟨c,0,some 1⟩) (Q i).length (Q i).length) (.int .i64 (v:Nat))=some (.pointer (some ⟨c,v,none⟩)):=(by rw [pk,iQ (by omega),uU,Xs,XE]);obtain⟨cn,on,bb,ak⟩:=a5.ix (kd:=.i64) (bR .i64) (Ye (3*i+2*v) (show 0<W.length by omega));generalize W[(3*i+2*v)%W.length]'(Ye (3*i+2*v) (by omega))=z at ak;simp only [BZ,cls,E,r14,r15,r16,hN.sl.lenq,j8 cj,w2,w4,w3,ds,e1,e2,bb,ak,encI,iv,S.ld (b:=A) (o:=4) m3 rfl,seval];have T:=St.init1 S.ok (o:=.row (ints (Q i)) 1) a6;refine cJ (aA T (i:=0) rfl Tryz.t2.2.2.1 aM (by rw [cC];omega) ono) ?_;clear T;rintro h3 ⟨T,Z⟩;simp only [Ya,ints_set]at T;have kc: ∀b∈keys [(bt,.row [.int .i64 x0] 1),(F,.row [ptrTo P,ptrTo bT,.pointer none,.pointer none] 1),(D,.row [.int .i64 u.nodes,vx,vy,va] 1),(A,.row [vB,vO,vM,.int .u8 (a:Nat),vN,q5,q6,q7] 1)] G,b≠c:=fun b hb e=>(by have:=kS b hb;omega);replace S:=S.step Z (fun b e=>.inr (by have e:b=c:=e;omega)) (fun b hb e=>kc b hb e);have D3:=a7 _ _ Z (Yc ..) (T.row m0);have D4:=D1.mo Z (fun b e=>by have e:b=c:=e;omega);have bc:iC u.nodes ((Q i).set v (min (max z 0) 72057594037927936)):=⟨by rw [Yc];exact ba,fun x hx=>by
          rcases Ys hx with h|h
          . exact(hRQ i hlt).2.2 x h
          . omega⟩
         clear D2 D1 T a7 a6 e2;simp only [BZ,r16,wv,seval];exact dn (v+1) _ _ (by omega) ⟨by omega,_,_,S,D4,D3,fun j hj=>⟨by
          by_cases ej:j=i
          . subst ej;simp only [if_true];exact dx
          . simp only [if_neg ej];exact(hRQ j hj).1,by
          by_cases ej:j=i
          . subst ej;simp only [if_true];exact bc
          . simp only [if_neg ej];exact(hRQ j hj).2⟩,by simp [aB,E,ah,H,J,r7,r8,r13,r14,r15]⟩
       . simp only [BZ,H,r7,r8,r13,r14,r15,r16,aE,ch,w,S.ld (b:=D) (o:=0) m2 rfl,seval];exact ih (i+1) _ _ (by omega) ⟨by omega,R,Q,S,DT,DF,hRQ,by simp [aB,E,ah,H,J,r7,r8,r13,r14]⟩
     . simp only [BZ,H,r7,r8,r13,r14,r15,(sR S m0 (fun p hp=>hp)).lenq,aE,hlt,S.ld (b:=D) (o:=0) m2 rfl,seval];refine step_ret (make_ok S.ok (sR S m0 (fun p hp=>hp)) DT.ll DF.ll (by omega) (by omega) hl (fun i V=>(hRQ i V).1) (fun i V=>(hRQ i V).2)) ?_;rintro pt h ⟨g,hT⟩;have kn:=k7 S m1;replace S:=S.call g;have tY:TabY h F (a/4%2=0) pt u (some (tabL l R Q)):=⟨⟨_,kn,tabL_at hT⟩,tabL_L hl (by omega) l1 (fun i V=>(hRQ i V).1) (fun i V=>(hRQ i V).2),hl4,hl,fun h=>absurd h (by omega)⟩;have bx:=tY.fl;simp only [BZ,seval];refine az (aA S (i:=1) rfl t32.2.2.1 bx (Xb (lbt rfl)) ono) ?_;clear S hT;rintro h ⟨S,Z⟩;simp only [LC,ac,lay,Xc,Xd,seval]at S;replace tY:=tY.mo Z (fun b e=>Nat.le_of_eq e);simp only [BZ];refine dL ⟨_,_,(?_ :St (· ∈[D,A]) hC0 _ _ []),tY,?_,by simp [aB,E,ah,H,J,r7]⟩
       . exact S.sub (Yi _ _) (Yj _)
       . rw [a1];rfl
   . by_cases ck:a/4%2=1
     . have e4:decide (a/4%2=1)=true:=decide_eq_true ck;have cN:(0<(W.length:Int))=False:=eq_false (by omega);simp only [BZ,E,r7,a4,d4,e4,hN.sl.lenq,cN,S.ld (b:=A) (o:=3) m3 rfl,S.ld (b:=A) (o:=4) m3 rfl,S.ld (b:=F) (o:=1) m1 rfl,seval];exact dL ⟨_,_,S.sub (Yi _ _) (Yj _),tY,by rw [a1];rfl,by simp [aB,E,ah,H,J,r7]⟩
     . have e4:decide (a/4%2=1)=false:=decide_eq_false ck;simp only [BZ,E,a4,d4,e4,S.ld (b:=A) (o:=3) m3 rfl,seval];exact dL ⟨_,_,S.sub (Yi _ _) (Yj _),tY,by rw [a1];rfl,by simp [aB,E,ah,H,J,r7]⟩
 . intro a1;simp only [BZ];exact dL ⟨_,none,S,rfl,by rw [a1];rfl,by simp [aB,ah]⟩
 clear S;intro s hA ⟨pt,T,S,tY,hTs,E,H,J,r7⟩;simp only [BZ,E,a2,d2,S.ld (b:=A) (o:=3) m2 rfl,seval];refine uq (fun s h'=> ∃pc pf C,St (· ∈[D,A]) hC0 h' [(F,.row [ptrTo P,pt,pc,pf] 1),(D,.row [.int .i64 u.nodes,vx,vy,va] 1),(A,.row [vB,vO,vM,.int .u8 (a:Nat),vN,q5,q6,q7] 1)] []/\TabY h' F (a/4%2=0) pt u T/\CelY h' (a/8%2=0) pc pf u C/\C.isSome=decide (a/2%2=1)/\s 1=ptrTo A/\s 4=ptrTo D/\s 5=ptrTo P/\s 7=ptrTo F) ?_ ?_ ?_
 . intro be;simp only [BZ];have S9:=S;replace S:=S.base;simp only [LC,keys,Xm,Xt,Xo]at S;have hq: ∀{N:Hp},Mo (· ∈[F,D,A]) hA N->Mo (· ∈[D,A]) hC0 N:=fun f=>S9.fr.trans f (fun c L=>by
    rcases List.mem_cons.1 L with rfl|L
    . exact .inr n7
    . exact .inl L)
   have kb: ∀c,c∈[F,D,A]->c<=F:=fun c Y=>(by simp only [Xw,Xr,or_false]at Y;omega);replace S:=S.nilG (k:=1);refine aX (fun(i:Nat) s h=>i<=u.nodes/\ ∃vQ,St (· ∈[F,D,A]) hA h [(F,.row [ptrTo P,pt,.pointer none,.pointer none] 1),(D,.row [.int .i64 u.nodes,vx,vy,va] 1),(A,.row [vB,vO,vM,.int .u8 (a:Nat),vN,q5,q6,q7] 1)] [(vQ,1,ints ((Xk i).map (tt O)))]/\s 1=ptrTo A/\s 4=ptrTo D/\s 5=ptrTo P/\s 7=ptrTo F/\s 17=vQ/\s 18=.int .i64 i) (fun i=>u.nodes-i) ?_ 0 _ _ ⟨Xe _,_,S,by simp [aB,E,ah,H,J,r7]⟩;clear S;clear E H J r7;intro i ih s h ⟨V,vQ,S,E,H,J,r7,r17,r18⟩;have w:am .i64 ((i:Int)+1)=((i+1:Nat):Int):=(by rw [wrap64]<;>omega);have dy:=(hO.sl.gr ay).mo (hq S.fr) (fun c L=>nb c (c5 c L));by_cases hlt:i<u.nodes
   . by_cases cl:O.length=0
     . have c0: ¬(0:Int)<(O.length:Int):=(by omega);simp only [BZ,E,H,r17,r18,aE,hlt,hO.sl.lenq,c0,S.ld (b:=D) (o:=0) m1 rfl,S.ld (b:=A) (o:=1) m2 rfl,seval];refine ab (bZ (by exact t41.1) (by exact XI) (by decide) (by rfl)) S ?_;clear S;intro h bs S cm;simp only [LC,bJ,cd,ac,XJ,Xs,XE,XO,seval]at S;simp only [BZ,seval];refine dT (S.grow (j:=0) (m:=1) (new:=ints [(0:Int)]) rfl t41.1 XI (by decide) t41.2.2.2.2.2 (by simp only [aR];rw [S.lds (b:=bs) (o:=0) (n:=1*1) m0 (lbt rfl)];rfl) rfl (by decide) rfl (by rw [cC,cC];simp;omega)) ?_;clear S;rintro h bX S;simp only [LC]at S;replace S:=S.drop1;rw [<-iO]at S;simp only [BZ,r18,w,seval];refine ih (i+1) _ _ (by omega) ⟨by omega,bX,?_,by simp [aB,E,ah,H,J,r7]⟩;rw [Yv,XW,List.map_singleton,show tt O i=(0:Int)from by unfold tt;rw [if_pos cl]];exact S
     . have c0:(0:Int)<(O.length:Int):=(by omega);have ai:i%O.length<O.length:=Ye _ (by omega);have tm:(i:Int).tmod (O.length:Int)=((i%O.length:Nat):Int):=(by rw [Xn (by omega)];exact(XK _ _).symm);obtain⟨c,o,a3,bk⟩:=dy.ix (kd:=.i64) (bR _) ai;have cz:(O.length:Int)≠0:=(by omega);have hx:=cO _ (XC ai);have t4:(O[i%O.length]).tmod 4=O[i%O.length]%4:=Xn hx.1;have wc:am .i64 ((O[i%O.length]).tmod 4)=(O[i%O.length]).tmod 4:=(by rw [wrap64]<;>omega);simp only [BZ,E,H,r18,aE,hlt,hO.sl.lenq,c0,S.ld (b:=D) (o:=0) m1 rfl,S.ld (b:=A) (o:=1) m2 rfl,seval];refine ao (av rfl) (q:=0) (ps:=[]) (by kernel_rfl) ?_;simp only [BZ,jJ,cZ,jM,cls,E,r17,r18,hO.sl.lenq,j8 cz,tm,a3,bk,encI,j8 (n:=4) (by decide),wc,S.ld (b:=A) (o:=1) m2 rfl,seval];refine ab (bZ (by exact t41.1) (by exact XI) (by decide) (by rfl)) S ?_;clear S;intro h bs S cm;simp only [LC,bJ,cd,ac,XJ,Xs,XE,XO,seval]at S;simp only [BZ,seval];refine dT (S.grow (j:=0) (m:=1) (new:=ints [(O[i%O.length]).tmod 4]) rfl t41.1 XI (by decide) t41.2.2.2.2.2 (by simp only [aR];rw [S.lds (b:=bs) (o:=0) (n:=1*1) m0 (lbt rfl)];rfl) rfl (by decide) rfl (by rw [cC,cC];simp;omega)) ?_;clear S;rintro h bX S;simp only [LC]at S;replace S:=S.drop1;rw [<-iO]at S;simp only [BZ,r18,w,seval];refine ih (i+1) _ _ (by omega) ⟨by omega,bX,?_,by simp [aB,E,ah,H,J,r7]⟩;rw [Yv,XW,List.map_singleton,show tt O i=(O[i%O.length]).tmod 4 from by unfold tt;rw [if_neg cl];simp [Xl,ai]];exact S
   . have dF :i=u.nodes:=(by omega);simp only [BZ,H,r7,r17,r18,aE,hlt,S.ld (b:=D) (o:=0) m1 rfl,seval];generalize hL:(Xk i).map (tt O)=Ls at S;have lL:Ls.length=u.nodes:=(by rw [<-hL];simp [dF]);have bL:=lmax_bd (K:=((0+Ls.length:Nat):Int)) (by omega) (norm_bd [] Ls);have nl:=Cu [] Ls;have bY: ¬yT (norm [] Ls):=by
      rintro(h|h|h)
      . rw [h]at nl;simp at nl;omega
      . exact h (norm_idem [] Ls)
      . omega
     have sl:aw h 1 (encI .i64) vQ Ls:=(S.gown _ m0).1.sl rfl (fun _=>rfl) (by decide);refine step_ret (Fz S.ok sl (by omega)) ?_;rintro v1 hP ⟨g1,s1,q1⟩;replace S:=S.call g1;simp only [BZ,seval];have k7:=S.key_lt (b:=F) (by simp [keys]);refine step_ret (E3 S.ok s1 (by omega) (by omega)) ?_;rintro v2 hR ⟨g2,dO⟩;obtain⟨_,bf⟩:=dO.resolve_left (fun h=>bY h.1);replace S:=S.call g2;obtain⟨cb,d0⟩: ∃b,v2=ptrTo b:=(by obtain⟨b,_,e,_⟩:=bf;exact⟨b,e⟩);subst d0;have d3:=norm_bd [] Ls;have lm:(norm [] Ls).length=u.nodes:=(by omega);have mz: ∀x∈norm [] Ls,0<=x/\x<256:=fun x hx=>(by have:=d3 x hx;simp only [List.length_nil]at this;omega);generalize norm [] Ls=m at bf bL bY lm mz;have d5: ∃c:Nat->Nat,∀v,v<u.nodes->m.getD v 0=(c v:Int):=⟨fun v=>(m.getD v 0).toNat,fun v hv=>by
      have cp:v<m.length:=(by omega);have:=(mz _ (XC cp)).1;have e:m.getD v 0=m[v]:=(by rw [Xl,Xg cp,Xx]);show m.getD v 0=((m.getD v 0).toNat:Int);rw [e];omega⟩
     obtain⟨cf,cr⟩:=d5;obtain⟨Mc,b0⟩: ∃M:Nat,ic m+1=(M:Int):=⟨(ic m+1).toNat,by omega⟩;replace S:St (· ∈[F,D,A]) hA hR [(F,.row [ptrTo P,pt,.pointer none,.pointer none] 1),(D,.row [.int .i64 u.nodes,vx,vy,va] 1),(A,.row [vB,vO,vM,.int .u8 (a:Nat),vN,q5,q6,q7] 1)] []:=S.sub (List.Sublist.refl _) (Yj _);have S8:=S;have kz:F<hR.n:=(S8.own _ m0).2.lt S8.ok;replace S:=S.base;simp only [LC,keys,Xm,Xt,Xo]at S;have b2: ∀{N:Hp},Mo (· ∈[F,D,A]) hR N->Mo (· ∈[F,D,A]) hA N:=fun f=>S8.fr.trans f (fun c L=>.inl L);have bh: ∀{N:Hp},Mo (· ∈[F,D,A]) hR N->kj N _ (ptrTo cb) m:=fun f=>bf.mo f (fun c L=>by have:=kb c L;omega);simp only [BZ,seval];refine az (aA S (i:=0) rfl t33.2.2.1 bA (Xb (lbt rfl)) ono) ?_;clear S;rintro h ⟨S,_⟩;simp only [LC,ac,lay,Xc,Xd,seval]at S;simp only [BZ,J,r7,S.ld (b:=F) (o:=2) m0 rfl,seval];have kh:=S.fr.n;refine step_ret (ofB_ok S.ok af (bi (hq (b2 S.fr))) ⟨bh S.fr,lm,cr⟩ b0 (by omega)) ?_;rintro _ h ⟨g6,fp,fb,Bt,rfl,nf,et,cs,BN,oB⟩;replace S:=S.call g6;have tz:Tz u.arcs.length ((u.arcs.length+7)/8) Bt:=fun r i h1 N=>by
      cases hb:gX Bt ((u.arcs.length+7)/8) r i with
      |false=>rfl| true=>
        rcases(oB r i N).1 hb with⟨_,h⟩|⟨_,h⟩
        . have:=Bj h;omega
        . simp at h
     simp only [BZ,seval];refine az (aA S (i:=0) rfl t34.2.2.1 bA (Xb (lbt rfl)) ono) ?_;clear S;rintro h ⟨S,Z⟩;simp only [LC,ac,lay,Xc,Xd,seval]at S;have bo:eJ h fp fb Mc u.arcs.length ((u.arcs.length+7)/8) Bt:=⟨Z.has (o:=.row _ 1) BN.r (fun e=>by have e:fp=F:=e;omega),Z.has (o:=.row _ 1) BN.b (fun e=>by have e:fb=F:=e;omega),BN.lt⟩;have d7:=oB;clear BN Z oB;have aL: ∀{N:Hp} {B:Nat->Nat},Mo (· ∈[F,D,A]) hR N->eJ N fp fb Mc u.arcs.length ((u.arcs.length+7)/8) B->Tz u.arcs.length ((u.arcs.length+7)/8) B->(a/8%2=0->B=Bt)->TabY N F (a/4%2=0) pt u T/\CelY N (a/8%2=0) (ptrTo cb) (ptrTo fp) u (some (m,byB (Mc*((u.arcs.length+7)/8)) B)):=fun f b z hb=>⟨tY.mo (b2 f) kb,⟨_,fp,fb,Mc,_,_,bh f,lm,rfl,b0,b,rfl,mz,bY,rfl,z⟩,_,cf,cb,fp,fb,Mc,_,rfl,rfl,⟨bh f,lm,cr⟩,b0,by omega,b,fun h=>by rw [hb h];exact d7⟩;by_cases h8:a/8%2=1
     . have e8:decide (a/8%2=1)=true:=decide_eq_true h8;simp only [BZ];refine tW (fun s h'=> ∃B,St (· ∈[F,D,A]) hR h' [(F,.row [ptrTo P,pt,ptrTo cb,ptrTo fp] 1),(D,.row [.int .i64 u.nodes,vx,vy,va] 1),(A,.row [vB,vO,vM,.int .u8 (a:Nat),vN,q5,q6,q7] 1)] []/\eJ h' fp fb Mc u.arcs.length ((u.arcs.length+7)/8) B/\Tz u.arcs.length ((u.arcs.length+7)/8) B/\s 1=ptrTo A/\s 4=ptrTo D/\s 5=ptrTo P/\s 7=ptrTo F)
        (fun(i:Nat) s h'=>i<=W.length/\i<=9/\ ∃B,St (· ∈[F,D,A]) hR h' [(F,.row [ptrTo P,pt,ptrTo cb,ptrTo fp] 1),(D,.row [.int .i64 u.nodes,vx,vy,va] 1),(A,.row [vB,vO,vM,.int .u8 (a:Nat),vN,q5,q6,q7] 1)] []/\eJ h' fp fb Mc u.arcs.length ((u.arcs.length+7)/8) B/\Tz u.arcs.length ((u.arcs.length+7)/8) B/\s 1=ptrTo A/\s 4=ptrTo D/\s 5=ptrTo P/\s 7=ptrTo F/\s 20=.int .i64 i) (fun i=>W.length-i) ?_ ?_ 0 ⟨Xe _,Xe _,Bt,S,bo,tz,by simp [aB,E,ah,H,J,r7]⟩
       . clear S bo tz ih E H J r7 r17 r18 w;intro i ih s N ⟨V,hi9,B,S,bm,tz,E,H,J,r7,al⟩;have w:am .i64 ((i:Int)+1)=((i+1:Nat):Int):=(by rw [wrap64]<;>omega);by_cases hlt:i<W.length
         . by_cases h9:i<9
           . have c9:(i:Int)<9:=(by omega);have a5:=(hN.sl.gr ay).mo (hq (b2 S.fr)) (fun c L=>nb c (br c L));obtain⟨cn,on,bb,ak⟩:=a5.ix (kd:=.i64) (bR .i64) hlt;generalize W[i]=z at ak;have w5:am .i64 ((u64 z%4:Nat):Int)=((u64 z%4:Nat):Int):=(by rw [wrap64]<;>omega);have m5:((u64 z:Nat):Int).tmod 4=((u64 z%4:Nat):Int):=(by rw [Xn (by omega)];exact(XK _ _).symm);have q5:am .u64 (((u64 z:Nat):Int).tdiv 4)=((u64 z/4:Nat):Int):=(by have:=u64_lt z;rw [Yq (by omega),show((u64 z:Int)/4)=((u64 z/4:Nat):Int) by omega,yB rfl];simp only [pw];omega);have ea:((u64 z/4:Nat):Int).tmod 40=((u64 z/4%40:Nat):Int):=(by rw [Xn (by omega)];exact(XK _ _).symm);have eb:am .i64 ((u64 z/4%40:Nat):Int)=((u64 z/4%40:Nat):Int):=(by rw [wrap64]<;>omega);simp only [BZ,E,al,hN.sl.lenq,aE,hlt,c9,a8,d8,e8,S.ld (b:=A) (o:=4) m2 rfl,S.ld (b:=A) (o:=3) m2 rfl,seval];refine ao (av rfl) (q:=0) (ps:=[]) (by kernel_rfl) ?_;simp only [BZ,jJ,cZ,jM,cls,E,r7,al,bb,ak,encI,wrap_u64,j8 (n:=4) (by decide),mV (n:=4) (by decide),j8 (n:=40) (by decide),j8 (n:=2) (by decide),w5,m5,q5,ea,eb,S.ld (b:=A) (o:=4) m2 rfl,S.ld (b:=F) (o:=3) m0 rfl,seval];refine bO (bSetG_ok S.ok bm cs (by omega) (by have:=af.many;omega) rfl _) ?_;rintro _ h3 ⟨Z,B',ec,ed⟩;replace S:=S.step Z (fun b e=>.inr (by have e:b=fb:=e;omega)) (fun b hb e=>by
              have e:b=fb:=e;simp only [keys,Xm,Xt,Xo,Xh]at hb;have:=kb b hb;omega)
             simp only [BZ,al,w,seval];exact ih (i+1) _ _ (by omega) ⟨by omega,by omega,B',S,ec,ed tz,by simp [aB,E,ah,H,J,r7]⟩
           . have c9: ¬(i:Int)<9:=(by omega);simp only [BZ,E,al,hN.sl.lenq,aE,hlt,c9,S.ld (b:=A) (o:=4) m2 rfl,seval];exact dL ⟨B,S,bm,tz,by simp [aB,E,ah,H,J,r7]⟩
         . simp only [BZ,E,al,hN.sl.lenq,aE,hlt,S.ld (b:=A) (o:=4) m2 rfl,seval];exact dL ⟨B,S,bm,tz,by simp [aB,E,ah,H,J,r7]⟩
       . clear S bo tz E H J r7 r17 r18;rintro s N ⟨B,S,bm,tz,E,H,J,r7⟩;obtain⟨f1,f2⟩:=aL S.fr bm tz (fun h=>absurd h (by omega));simp only [BZ];exact dL ⟨_,_,some _,S9.rebase (S8.rebase S),f1,f2,by rw [be];rfl,by simp [aB,E,ah,H,J,r7]⟩
     . have e8:decide (a/8%2=1)=false:=decide_eq_false h8;obtain⟨f1,f2⟩:=aL S.fr bo tz (fun _=>rfl);simp only [BZ];refine aX (fun(i:Nat) s h'=>i=0/\h'=_/\s 1=ptrTo A/\s 4=ptrTo D/\s 5=ptrTo P/\s 7=ptrTo F/\s 20=.int .i64 0) (fun _=>0) ?_ 0 _ _ ⟨rfl,rfl,by simp [aB,E,ah,H,J,r7]⟩;clear E H J r7;rintro i ih s _ ⟨rfl,rfl,E,H,J,r7,al⟩;by_cases hlt:0<W.length
       . have cN:(0<(W.length:Int))=True:=eq_true (by omega);simp only [BZ,E,al,hN.sl.lenq,cN,a8,d8,e8,S.ld (b:=A) (o:=4) m2 rfl,S.ld (b:=A) (o:=3) m2 rfl,seval];exact dL ⟨_,_,some _,S9.rebase (S8.rebase S),f1,f2,by rw [be];rfl,by simp [aB,E,ah,H,J,r7]⟩
       . have cN:(0<(W.length:Int))=False:=eq_false (by omega);simp only [BZ,E,al,hN.sl.lenq,cN,S.ld (b:=A) (o:=4) m2 rfl,seval];exact dL ⟨_,_,some _,S9.rebase (S8.rebase S),f1,f2,by rw [be];rfl,by simp [aB,E,ah,H,J,r7]⟩
 . intro be;simp only [BZ];exact dL ⟨_,_,none,S,tY,⟨rfl,rfl⟩,by rw [be];rfl,by simp [aB,E,ah,H,J,r7]⟩
 clear S tY E H J r7;intro s hE ⟨pc,pf,C,S,tY,cX,hCs,E,H,J,r7⟩;have hn:=bi S.fr;have gZ:Gr h0 hE:=(ay.fr.trans S.fr (fun c L=>.inr (c2 c L)):Mo NoM h0 hE).gr;simp only [BZ,aa,r7,seval];refine⟨gZ,F,⟨u,T,C⟩,rfl,⟨af,_,_,_,_,_,S.row m0,hn,?_,cX⟩,hTs,hCs⟩;cases T with
 |none=>exact tY|some T=>obtain⟨⟨m,_,x⟩,y⟩:=tY;exact⟨⟨m,by omega,x⟩,y⟩
theorem rz(a:OZ h0){c:Int}:aQ zM 60 [.bool true,.int .i64 c] h0 (.tuple #[]):=by have S:=Si a;refine erA (n:=9) (rs:=[]) e60 ?_;simp only [BZ,aa,seval];exact S.gr
theorem BR{L:List (Nat×Ob)}(S:St M h0 hq L G):Ret zM 150 [.func (.func g) #[] #[]] hq fun r h'=> ∃a,r=.func (.func 218) #[] #[ptrTo a]/\St M h0 h' ((a,.row [.func (.func g) #[] #[]] 1)::L) G:=by
 have c:=S.ok;refine erA (n:=4) (rs:=[.tmp 2]) e150 ?_;simp only [BZ,seval];refine ab (aW (by intro x e;cases e)) S ?_;clear S;intro h a S b;simp only [ac]at S;simp only [BZ,aa,seval];exact⟨_,rfl,S⟩
def wayV(t c:Bool)(f:Value):List Value:=[.bool t,.bool c,f]
def tw:Nat->Bool
 |2=>true|3=>true|5=>true|_=>false
def cw:Nat->Bool
 |4=>true|5=>true|_=>false
def fw(b1 b2:Nat):Nat->Value
 |0=>.func (.func 218) #[] #[ptrTo b1]|1=>.func (.func 218) #[] #[ptrTo b2]|2=>.func (.func 151) #[] #[]|3=>.func (.func 152) #[] #[]|_=>.func (.func 149) #[] #[]
theorem fw_fl:Fl (fw b1 b2 k):=by unfold fw;split<;>exact dI
def dg(b1 b2:Nat)(k:Nat):List Value:=wayV (tw k) (cw k) (fw b1 b2 k)
theorem ways_at(a:k<6):((dg b1 b2 0++(dg b1 b2 1++(dg b1 b2 2++(dg b1 b2 3++(dg b1 b2 4++dg b1 b2 5))))).drop (k*3)).take 3=dg b1 b2 k:=by
 have:k=0\/k=1\/k=2\/k=3\/k=4\/k=5:=by omega
 rcases this with rfl|rfl|rfl|rfl|rfl|rfl<;>rfl
theorem build_all{a b c b1 b2 c0 e g h i k l m n o:Value}:jE zM 127 [(0,.agg ⟨[a,b,c]⟩),(1,.agg ⟨[d,b1,b2]⟩),(2,.agg ⟨[c0,e,f]⟩),(3,.agg ⟨[g,h,i]⟩),(4,.agg ⟨[j,k,l]⟩),(5,.agg ⟨[m,n,o]⟩)]=some (.agg ⟨[a,b,c,d,b1,b2,c0,e,f,g,h,i,j,k,l,m,n,o]⟩):=by unfold jE;simp only [t127.2.2.2.1,t127.1,t126.2.1];rfl
theorem all_ok(b:OZ h0):Ret zM 61 [] h0 fun r h'=>Gr h0 h'/\ ∃b1 b2,r=.agg ⟨dg b1 b2 0++(dg b1 b2 1++(dg b1 b2 2++(dg b1 b2 3++(dg b1 b2 4++dg b1 b2 5))))⟩/\h'.load b1 0 1=some [.func (.func 45) #[] #[]]/\h'.load b2 0 1=some [.func (.func 50) #[] #[]]/\h0.n<=b1/\h0.n<=b2:=by have S:=Si b;refine erA (n:=13) (rs:=[.cell 0 127]) e61 ?_;simp only [BZ];refine ab au S ?_;clear S;intro h d S a;simp only [BZ];refine step_ret (BR S) ?_;rintro _ h ⟨b1,rfl,S⟩;simp only [BZ,seval];refine step_ret (BR S) ?_;rintro _ h ⟨b2,rfl,S⟩;simp only [BZ,build_all,seval];refine az (stA S (i:=2) t127.2.2.1) ?_;clear S;rintro h ⟨S,c⟩;clear c;simp only [LC,ac,lay,Xc,Xd,seval]at S;simp only [BZ,aa];refine(bD (by decide) (by simp only [aD,ah,seval];exact bI t127.2.1 t127.2.2.1 (S.lds (o:=0) (n:=18) m2 (lbt rfl)))).2 ?_;exact cu.2 ⟨S.gr,b1,b2,rfl,S.ld m1 rfl,S.ld m0 rfl,(S.own _ m1).1.resolve_right (fun h=>h),(S.own _ m0).1.resolve_right (fun h=>h)⟩
theorem St.ne01{L:List (Nat×Ob)}(S:St M h0 h L G){i j:Nat}{o o':Ob}(d:L[i]? =some (b,o))(e:L[j]? =some (c,o'))(a:i≠j):b≠c:=by rintro rfl;have f:=oz (G:=G) d;have g:=oz (G:=G) e;exact a (qA S.apart f g)
structure Ev2 where
 kind:Nat
 side:Bool
 id:Nat
 lab:Nat
variable{e:Ev2}
variable{xs:List Ev2}
structure Sd where
 K:Nat->Option Int
 L:Nat->Option Nat
 P:Nat->List Nat
 O:List Nat
variable{x:Sd}
structure Bi where
 sd:Bool->Sd
 ev:List Ev2
 dist:Nat
 meet:Nat
variable{σ τ:Bi}
def fsB(i:Bool):Arc->Nat:=if i then Arc.t else Arc.s
def ftB(i:Bool):Arc->Nat:=if i then Arc.s else Arc.t
def qB(pi:Nat->Int)(i:Bool)(v:Nat):Int:=if i then-pi v else pi v
def OpB(pi:Nat->Int)(v:Nat):Prop:= -(FAR:Int)<pi v/\pi v<(FAR:Int)
instance (pi:Nat->Int)(v:Nat):Decidable (OpB pi v):=by unfold OpB;infer_instance
def dK(f:Bool->Sd)(i:Bool)(x:Sd):Bool->Sd:=fun j=>if j=i then x else f j
def leO(o:Option Nat)(lab:Nat):Bool:=match o with
 |some w=>decide (w<=lab)|none=>false
def rV(o:Option Nat)(σ:Bi)(v lab:Nat):Bi:=match o with
 |some m=>if lab+m<σ.dist then⟨σ.sd,σ.ev,lab+m,v⟩else σ
 |none=>σ
def eY(pi:Nat->Int)(x:Sd)(i:Bool)(v lab:Nat)(p:List Nat):Sd:=⟨dw x.K v (some (2*lab+qB pi i v)),fun u=>if u=v then some lab else x.L u,ng x.P v p,x.O⟩
def du(pi:Nat->Int)(i:Bool)(σ:Bi)(v lab:Nat)(p:List Nat):Bi:=
 if v∈(σ.sd i).O\/ ¬OpB pi v\/leO ((σ.sd i).L v) lab=true then σ else rV ((σ.sd (!i)).L v) ⟨dK σ.sd i (eY pi (σ.sd i) i v lab p),σ.ev,σ.dist,σ.meet⟩ v lab
def labB(σ:Bi)(i:Bool)(v:Nat):Nat:=((σ.sd i).L v).getD 0
def evB(σ:Bi)(e:Ev2):Bi:=⟨σ.sd,σ.ev++[e],σ.dist,σ.meet⟩
def cG(σ:Bi)(i:Bool)(v:Nat):Bi:=⟨dK σ.sd i ⟨dw (σ.sd i).K v none,(σ.sd i).L,(σ.sd i).P,(σ.sd i).O++[v]⟩,σ.ev++[⟨0,i,v,labB σ i v⟩],σ.dist,σ.meet⟩
def eo(A:List Arc)(al:Nat->Bool)(pi:Nat->Int)(i:Bool)(v:Nat)(σ:Bi)(a:Nat):Bi:=
 if al a=true then du pi i (evB σ ⟨1,i,a,0⟩) (ftB i (A.getD a default)) (labB σ i v+(A.getD a default).w) (a::(σ.sd i).P v)else σ
def iz(A:List Arc)(al:Nat->Bool)(pi:Nat->Int)(i:Bool)(v:Nat)(σ:Bi):Bi:=(outs A (fsB i) A.length v).foldl (eo A al pi i v) σ
def iT:Sd:=⟨fun _=>none,fun _=>none,fun _=>[],[]⟩
def kU(pi:Nat->Int)(s t:Nat):Bi:=du pi true (du pi false ⟨fun _=>iT,[],FAR,0⟩ s 0 []) t 0 []
def StopB(σ:Bi):Prop:=(∃i,∀v,(σ.sd i).K v=none)\/ ∃v k u l,og (σ.sd false).K v k/\og (σ.sd true).K u l/\2*(σ.dist:Int)<=k+l
def TurnB(σ:Bi)(i:Bool):Prop:= ∃v k u l,og (σ.sd false).K v k/\og (σ.sd true).K u l/\k+l<2*(σ.dist:Int)/\i=decide (l<k)
inductive j7(A:List Arc)(al:Nat->Bool)(pi:Nat->Int):Bi->Bi->Prop where
 |stop {σ:Bi}:StopB σ->j7 A al pi σ σ
 |step {σ τ:Bi} {i:Bool} {v:Nat} {k:Int}:TurnB σ i->og (σ.sd i).K v k->j7 A al pi (iz A al pi i v (cG σ i v)) τ->j7 A al pi σ τ
theorem fj{f:Bool->Sd}:dK f i x i=x:=if_pos rfl
theorem nQ{f:Bool->Sd}:dK f i x (!i)=f (!i):=if_neg (by grind)
theorem Aw{f:Bool->Sd}{j:Bool}(h:j≠i):dK f i x j=f j:=if_neg h
theorem rD{o:Option Nat}:(rV o σ v lab).sd=σ.sd/\(rV o σ v lab).ev=σ.ev:=by unfold rV;grind
section
variable{A:List Arc}{N:Nat}{al:Nat->Bool}{pi:Nat->Int}{σ:Bi}{rt:Bool->Nat}
structure SvB(A:List Arc)(N r:Nat)(al:Nat->Bool)(pi:Nat->Int)(i:Bool)(x:Sd):Prop where
 nd:x.O.Nodup
 lt: ∀v∈x.O,v<N/\x.L v≠none
 op: ∀v k,x.K v=some k->v∉x.O/\ ∃l,x.L v=some l/\k=2*(l:Int)+qB pi i v
 lab: ∀v l,x.L v=some l->v<N/\OpB pi v/\l<=x.O.length*cg/\(x.P v).length<=x.O.length/\(v∈x.O\/x.K v≠none)
 path: ∀v l,x.L v=some l->(v=r/\x.P v=[]/\l=0)\/ ∃a m,a<A.length/\al a=true/\ftB i (A.getD a default)=v/\fsB i (A.getD a default)∈x.O/\x.P v=a::x.P (fsB i (A.getD a default))/\x.L (fsB i (A.getD a default))=some m/\l=m+(A.getD a default).w
structure BiI(A:List Arc)(N:Nat)(rt:Bool->Nat)(al:Nat->Bool)(pi:Nat->Int)(σ:Bi):Prop where
 sv: ∀i,SvB A N (rt i) al pi i (σ.sd i)
 dm:(σ.dist=FAR/\ ∀i v x,(σ.sd i).L v=some x->(σ.sd (!i)).L v=none)\/(∀i,∃x y,(σ.sd i).L σ.meet=some x/\(σ.sd (!i)).L σ.meet=some y/\σ.dist=x+y)
 le: ∀i v x y,(σ.sd i).L v=some x->(σ.sd (!i)).L v=some y->σ.dist<=x+y
theorem SvB.len(h:SvB A N r al pi i x):x.O.length<=N:=pM N x.O h.nd (fun v a=>(h.lt v a).1)
theorem pR{j:Bool}(h:j≠i):j= !i:=by cases i<;>cases j<;>first|rfl|grind
theorem not_ne:(!i)≠i:=by grind
theorem SvB.put{b:Bool}{p:List Nat}(h:SvB A N r al pi b x)(y:v∉x.O)(j:OpB pi v)(E:v<N)(b1:lab<=x.O.length*cg)(b2:p.length<=x.O.length)(d:(v=r/\p=[]/\lab=0)\/ ∃a m,a<A.length/\al a=true/\ftB b (A.getD a default)=v/\fsB b (A.getD a default)∈x.O/\p=a::x.P (fsB b (A.getD a default))/\x.L (fsB b (A.getD a default))=some m/\lab=m+(A.getD a default).w):SvB A N r al pi b (eY pi x b v lab p):=by
 have F: ∀{u},u∈x.O->u≠v:=fun f e=>y (e▸f);have g: ∀{u},u≠v->(eY pi x b v lab p).L u=x.L u:=fun h=>if_neg h;have z: ∀{u},u≠v->(eY pi x b v lab p).K u=x.K u:=fun h=>if_neg h;have B: ∀{u},u≠v->(eY pi x b v lab p).P u=x.P u:=fun h=>if_neg h;have n:(eY pi x b v lab p).L v=some lab:=if_pos rfl;have C:(eY pi x b v lab p).K v=some (2*(lab:Int)+qB pi b v):=if_pos rfl;have D:(eY pi x b v lab p).P v=p:=if_pos rfl;refine⟨h.nd,fun u f=>⟨(h.lt u f).1,by rw [g (F f)];exact(h.lt u f).2⟩,fun u k i=>?_,fun u l c=>?_,fun u l c=>?_⟩
 . by_cases e:u=v
   . subst e;rw [C]at i;cases i;exact⟨y,lab,n,rfl⟩
   . rw [z e]at i;rw [g e];exact h.op u k i
 . by_cases e:u=v
   . subst e;rw [n]at c;cases c;exact⟨E,j,b1,by rw [D];exact b2,.inr (by rw [C];nofun)⟩
   . rw [g e]at c;rw [z e,B e];exact h.lab u l c
 . by_cases e:u=v
   . subst e;rw [n]at c;cases c;rw [D];rcases d with d|⟨a,m,o,q,s,t,G,H,w⟩
     . exact .inl d
     . exact .inr ⟨a,m,o,q,s,t,by grind,by grind,w⟩
   . rw [g e]at c;rw [B e];rcases h.path u l c with d|⟨a,m,o,q,s,t,G,H,w⟩
     . exact .inl d
     . exact .inr ⟨a,m,o,q,s,t,by grind,by grind,w⟩
theorem BiI.reach{b:Bool}{p:List Nat}(j:N<=12)(h:BiI A N rt al pi σ)(H:v<N)(b1:lab<=(σ.sd b).O.length*cg)(b2:p.length<=(σ.sd b).O.length)(I:(v=rt b/\p=[]/\lab=0)\/ ∃a m,a<A.length/\al a=true/\ftB b (A.getD a default)=v/\fsB b (A.getD a default)∈(σ.sd b).O/\p=a::(σ.sd b).P (fsB b (A.getD a default))/\(σ.sd b).L (fsB b (A.getD a default))=some m/\lab=m+(A.getD a default).w):BiI A N rt al pi (du pi b σ v lab p):=by
 unfold du
 split
 . exact h
 . rename_i C;simp only [not_or,Decidable.not_not]at C;obtain⟨J,B,hle⟩:=C;have k: ∀i,SvB A N (rt i) al pi i (dK σ.sd b (eY pi (σ.sd b) b v lab p) i):=fun i=>by
    by_cases e:i=b
    . subst e;rw [fj];exact(h.sv i).put J B H b1 b2 I
    . rw [Aw e];exact h.sv i
   have s: ∀u,(dK σ.sd b (eY pi (σ.sd b) b v lab p) (!b)).L u=(σ.sd (!b)).L u:=fun u=>(by rw [nQ]);have K:(dK σ.sd b (eY pi (σ.sd b) b v lab p) b).L v=some lab:=(by rw [fj];exact if_pos rfl);have t: ∀{u},u≠v->(dK σ.sd b (eY pi (σ.sd b) b v lab p) b).L u=(σ.sd b).L u:=fun {u} e=>by rw [fj];exact if_neg e
   -- the smaller facts, for side b and its opposite
   have L:=h.sv b;have M:=hU;have U:=kK;have n: ∀{i u l},(σ.sd i).L u=some l->l<=12*cg:=fun {i u l} O=>(by have q:=((h.sv i).lab u l O).2.2.1;have o:=XH cg (Xj (h.sv i).len j);omega);have D:lab<=12*cg:=(by have o:=XH cg (Xj L.len j);omega);have c: ∀{P:Bool->Prop},P b->P (!b)-> ∀i,P i:=fun {P} V Q i=>by
    by_cases e:i=b
    . grind
    . rw [pR e];exact Q
   have E:(!(!b))=b:=(by cases b<;>rfl);cases R:(σ.sd (!b)).L v with
   | none =>
     unfold rV;simp only [];refine⟨k,?_,?_⟩
     . rcases h.dm with⟨F,S⟩|d
       . refine .inl ⟨F,c (P:=fun i=> ∀u x,(dK σ.sd b (eY pi (σ.sd b) b v lab p) i).L u=some x->(dK σ.sd b (eY pi (σ.sd b) b v lab p) (!i)).L u=none) (fun u x f=>?_) (fun u x f=>?_)⟩
         . grind
         grind
       . have T:σ.meet≠v:=fun e=>(by obtain⟨x,y,_,o,_⟩:=d b;grind);refine .inr (c (P:=fun i=> ∃x y,(dK σ.sd b (eY pi (σ.sd b) b v lab p) i).L σ.meet=some x/\(dK σ.sd b (eY pi (σ.sd b) b v lab p) (!i)).L σ.meet=some y/\σ.dist=x+y) ?_ ?_)
         . obtain⟨x,y,q,o,w⟩:=d b;grind
         . obtain⟨x,y,q,o,w⟩:=d (!b);grind
     . refine c (P:=fun i=> ∀u x y,(dK σ.sd b (eY pi (σ.sd b) b v lab p) i).L u=some x->(dK σ.sd b (eY pi (σ.sd b) b v lab p) (!i)).L u=some y->σ.dist<=x+y) (fun u x y f g=>?_) (fun u x y f g=>?_)
       . rw [s]at g;by_cases e:u=v
         . grind
         . rw [t e]at f;exact h.le b u x y f g
       . rw [s]at f;rw [E]at g;by_cases e:u=v
         . grind
         . rw [t e]at g;exact h.le (!b) u x y f (by grind)
   | some m =>
     have W:=n R;have X: ∀{i:Bool} {u x y:Nat},(dK σ.sd b (eY pi (σ.sd b) b v lab p) i).L u=some x->(dK σ.sd b (eY pi (σ.sd b) b v lab p) (!i)).L u=some y->(u=v/\x+y=lab+m)\/(u≠v/\σ.dist<=x+y):=fun {i u x y} f g=>by
      by_cases e:u=v
      . subst e;refine .inl ⟨rfl,?_⟩;by_cases z:i=b
        . grind
        . rw [pR z]at f g;grind
      . refine .inr ⟨e,?_⟩;by_cases z:i=b
        . subst z;rw [t e]at f;rw [s]at g;exact h.le i u x y f g
        . rw [pR z]at f g;rw [s]at f;rw [E,t e]at g;exact h.le (!b) u x y f (by grind)
     unfold rV;simp only []
     split
     . rename_i hlt;refine⟨k,.inr (c (P:=fun i=> ∃x y,(dK σ.sd b (eY pi (σ.sd b) b v lab p) i).L v=some x/\(dK σ.sd b (eY pi (σ.sd b) b v lab p) (!i)).L v=some y/\lab+m=x+y) ⟨lab,m,K,by grind,rfl⟩ ⟨m,lab,by grind,by grind,Nat.add_comm _ _⟩),fun i u x y f g=>?_⟩;grind
     . rename_i r;have r: ¬lab+m<σ.dist:=r;have G: ∀x,(σ.sd b).L v=some x->lab<x:=fun x f=>(by simp_all[hle,leO,decide_eq_true_eq]);refine⟨k,?_,fun i u x y f g=>?_⟩
       . rcases h.dm with⟨F,S⟩|d
         . omega
         . have T:σ.meet≠v:=fun e=>(by obtain⟨x,y,q,o,w⟩:=d b;grind);refine .inr (c (P:=fun i=> ∃x y,(dK σ.sd b (eY pi (σ.sd b) b v lab p) i).L σ.meet=some x/\(dK σ.sd b (eY pi (σ.sd b) b v lab p) (!i)).L σ.meet=some y/\σ.dist=x+y) ?_ ?_)
           . obtain⟨x,y,q,o,w⟩:=d b;grind
           . obtain⟨x,y,q,o,w⟩:=d (!b);grind
       grind
end
theorem uX(s:OZ h0){F:List Nat}{K:Nat->Option Int}(H:cF h0 F p N K):
 ∃(k:Int) (b:Bool),aQ zM 210 [p] h0 (.tuple #[.int .i64 k,.bool b])/\((b=false/\ ∀v,K v=none)\/(b=true/\ ∃v,og K v k)):=by
 obtain⟨m,q,t⟩:=uc s H;obtain⟨P,Q,l,rfl,A,r,hlt,B⟩:=H.ex;by_cases d:m=0
 . refine⟨0,false,?_,.inl ⟨rfl,t.1 d⟩⟩;subst d;have S:=Si s;refine erA (n:=15) (rs:=[.tmp 2,.tmp 3]) e210 ?_;simp only [BZ,seval];refine ae (q) ?_;intro h g;replace S:=S.call g;simp only [BZ,aa,zO,seval];exact S.gr
 . have w: ¬((m:Int)=0):=(by omega);rcases B with⟨rfl,_⟩|⟨D,E,rfl,R⟩
   . exact absurd (t.2 r.nil) d
   . have a:0<l.length:=by
      cases l with
      |nil=>exact absurd (t.2 r.nil) d|cons x l=>simp
     refine⟨(l.getD 0 default).key,true,?_,.inr ⟨rfl,(l.getD 0 default).id,r.at a,fun u T G=>?_⟩⟩
     . have S:=Si s;refine erA (n:=15) (rs:=[.tmp 2,.tmp 3]) e210 ?_;simp only [BZ,seval];refine ae (q) ?_;intro h g;replace S:=S.call g;replace R:=R.gr g;clear g;obtain⟨U,V,c,f,y,I,C,W,X⟩:=R.ex;have J:=R.row.load1 (o:=0) rfl;have L:=C.ld2 y a;have z:h.load D (0*2+1) 1=some [.int .i64 (l.getD 0 default).key]:=rM L (i:=1) (m:=1) (by omega);have M:i6 (.int .i64 0) l.length=some 0:=iQ (i:=0) a;simp only [BZ,aa,w,J,M,z,seval];exact S.gr
     . obtain⟨j,O,e⟩:=r.idx G;have:=C3 A j O;rw [e]at this;unfold Ab.hle at this;simp only []at this;omega
theorem bpi_ok(k:OZ h0)(f:h0.load br 4 1=some [vPi])(d:aw h0 1 (encI .i64) vPi pis)(a:v<pis.length\/pis=[]/\vPi=.slice none 0 0):aQ zM 207 [ptrTo br,.int .i64 (v:Nat)] h0 (.tuple #[.int .i64 (pis.getD v 0),.bool (decide (-(FAR:Int)<pis.getD v 0/\pis.getD v 0<FAR))]):=by
 have S:=Si k;have l:=hU;rcases a with a|a;rotate_left
 . obtain⟨rfl,_⟩:=a;refine erA (n:=29) (rs:=[.tmp 4,.tmp 5]) e207 ?_;simp only [BZ,aa,zO,f,d.lenq,seval];exact⟨by rw [decide_eq_true (by simp only [List.getD_nil];omega)];rfl,S.gr⟩
 have g: ¬((pis.length:Int)=0):=by omega
 obtain⟨c,o,h,b⟩:=d.ix (kd:=.i64) (bR .i64) a;have e:pis.getD v 0=pis[v]:=by rw [Xl,Xg a,Xx]
 rw [e];generalize pis[v]=p at b;replace b:h0.load c o 1=some [.int .i64 p]:=b;refine erA (n:=29) (rs:=[.tmp 4,.tmp 5]) e207 ?_;by_cases i:(-72057594037927936:Int)<p
 . by_cases j:p<72057594037927936
   . simp only [BZ,aa,f,d.lenq,g,h,b,i,j,seval];refine⟨?_,S.gr⟩;rw [decide_eq_true (by omega)]
   . simp only [BZ,aa,f,d.lenq,g,h,b,i,j,seval];refine⟨?_,S.gr⟩;rw [decide_eq_false (by omega)]
 . simp only [BZ,aa,f,d.lenq,g,h,b,i,seval];refine⟨?_,S.gr⟩;rw [decide_eq_false (by omega)]
theorem pair_nl{x:Option Tch}:iS none x=true:=by cases x<;>rfl
theorem pair_nr{x:Option Tch}:iS x none=true:=by
 cases x with
 |none=>rfl|some x=>cases x<;>rfl
theorem ss(b:OZ h0){a:Gra}(d:aP h0 c p a)(e:h0.load b2 0 1=some [p])(f:v<a.nodes):aQ zM 204 [.int .i64 (v:Nat),ptrTo b2] h0 (.bool true):=by
 have S:=Si b;have g:(0:Int)<=(v:Int):=by omega
 refine erA (n:=12) (rs:=[.tmp 3]) e204 ?_;simp only [BZ,e,g,seval];refine ae (bC S.ok d) ?_;intro i h;replace S:=S.call h;simp only [BZ,aa,aE,f,seval];exact S.gr
theorem rY(d:OZ h0)(h:a=0\/a=b):aQ zM 205 [.int .i64 (a:Nat),.int .i64 (b:Nat)] h0 (.bool true):=by
 have S:=Si d;refine erA (n:=12) (rs:=[.tmp 4]) e205 ?_;by_cases c:a=0
 . subst c;simp only [BZ,aa,zO,seval];exact S.gr
 . have e:a=b:=h.resolve_left c;subst e;have f: ¬(a:Int)=0:=(by omega);simp only [BZ,aa,f,seval];exact S.gr
theorem rightN_ok(I:OZ h0){f:Gra}{J:Nat}(m:aP h0 J (ptrTo r) f)(K:s<f.nodes)(L:to<f.nodes):aQ zM 127 [ptrTo r,.agg ⟨[.int .i64 (s:Nat),.int .i64 (to:Nat),.slice none 0 0,.slice none 0 0]⟩] h0 (.bool true):=by
 have S:=Si I;refine erA (n:=36) (rs:=[.tmp 4]) e127 ?_;simp only [BZ,seval];refine ab (bz (by exact bA)) S ?_;clear S;intro h c S t;simp only [BZ,if_false,seval];refine ab (aW (by intro x e;cases e)) S ?_;clear S;intro h d S u;simp only [ac]at S;simp only [BZ,seval];have t2:=(S.row (b:=c) m1).lt S.ok;have t3:=(S.row (b:=d) m0).lt S.ok;have M:=S.gr.n;refine ao (av rfl) (q:=0) (ps:=[(23,25),(22,25),(14,16),(13,16)]) (by kernel_rfl) ?_;simp only [BZ,cls,S.ld (b:=d) (o:=0) m0 rfl,seval];refine bj (ss S.ok (m.gr S.gr) (S.ld (b:=c) (o:=0) m1 rfl) K) ?_;intro N g;have v:=ag g t2;have w:=ag g t3;have y:=g.n;replace S:=S.call g;simp only [BZ,cls,S.ld (b:=d) (o:=1) m0 rfl,seval];refine bj (ss S.ok (m.gr S.gr) (S.ld (b:=c) (o:=0) m1 rfl) L) ?_;intro z i;have e4:=ag i (Xu t2 y);have e5:=ag i (Xu t3 y);have O:=i.n;replace S:=S.call i;clear i;simp only [BZ,cls,zO,S.ld (b:=d) (o:=2) m0 rfl,S.ld (b:=c) (o:=0) m1 rfl,seval];refine bj (iW S.ok (m.gr S.gr)) ?_;intro A j;have e6:=ag j (show c<z.n by omega);have B:=ag j (show d<z.n by omega);have P:=j.n;replace S:=S.call j;clear j;simp only [BZ,cls,seval];refine bj (rY (a:=0) (b:=f.arcs.length) S.ok (.inl rfl)) ?_;intro C k;have e8:=ag k (show c<A.n by omega);have e9:=ag k (show d<A.n by omega);have Q:=k.n;replace S:=S.call k;clear k;simp only [BZ,cls,zO,S.ld (b:=d) (o:=3) m0 rfl,S.ld (b:=c) (o:=0) m1 rfl,seval];refine bj (bC S.ok (m.gr S.gr)) ?_;intro D l;have E:=ag l (show c<C.n by omega);have F:=ag l (show d<C.n by omega);have R:=l.n;replace S:=S.call l;clear l;simp only [BZ,cls,seval];refine bj (rY (a:=0) (b:=f.nodes) S.ok (.inl rfl)) ?_;intro T p;have G:=ag p (show c<D.n by omega);have H:=ag p (show d<D.n by omega);replace S:=S.call p;simp only [BZ,cls,aa,seval];refine⟨by simp only [aI,aO,aF,aK,aH,ne_eq,not_false_eq_true,aU,aY,aN,aJ,bw,bN,aD,Xa,ah,tT,jC,jD,pair_nl,pair_nr,an v,aq v,an w,aq w,an e4,aq e4,an e5,aq e5,an e6,aq e6,an B,aq B,an e8,aq e8,an e9,aq e9,an E,aq E,an F,aq F,an G,aq G,an H,aq H,seval],?_⟩;exact S.gr
theorem bright_ok(w:OZ h0){i:Gra}{W:Nat}(t:aP h0 W (ptrTo z) i)(A:s<i.nodes)(B:to<i.nodes)(u:aw h0 1 (encI .i64) vPi pis)(j:pis.length=i.nodes\/pis=[]/\vPi=.slice none 0 0):aQ zM 127 [ptrTo z,.agg ⟨[.int .i64 (s:Nat),.int .i64 (to:Nat),.slice none 0 0,vPi]⟩] h0 (.bool true):=by
 rcases j with j|j;rotate_left
 . obtain⟨rfl,rfl⟩:=j;exact rightN_ok w t A B
 have S:=Si w;have X:=u.fl;obtain⟨g,Y,Z,ci,rfl⟩: ∃b o s c,vPi=.slice (some ⟨b,o,s⟩) pis.length c:=by
  rcases u with⟨_,rfl⟩|⟨b,o,s,c,e,_⟩
  . simp at j;omega
  . exact⟨b,o,s,c,e⟩
 have ti:g<h0.n:=u.blt w rfl;refine erA (n:=36) (rs:=[.tmp 4]) e127 ?_;simp only [BZ,seval];refine ab (bz (by exact bA)) S ?_;clear S;intro h d S C;simp only [BZ,if_false,seval];refine ab (aW (by intro x e;cases e)) S ?_;clear S;intro h f S D;simp only [ac]at S;simp only [BZ,seval];have t2:=(S.row (b:=d) m1).lt S.ok;have t3:=(S.row (b:=f) m0).lt S.ok;have k0:=S.gr.n;refine ao (av rfl) (q:=0) (ps:=[(23,25),(22,25),(14,16),(13,16)]) (by kernel_rfl) ?_;simp only [BZ,cls,S.ld (b:=f) (o:=0) m0 rfl,seval];refine bj (ss S.ok (t.gr S.gr) (S.ld (b:=d) (o:=0) m1 rfl) A) ?_;intro h1 k;have E:=ag k t2;have F:=ag k t3;have G:=ag k (show g<_ by omega);have H:=k.n;replace S:=S.call k;clear k;simp only [BZ,cls,S.ld (b:=f) (o:=1) m0 rfl,seval];refine bj (ss S.ok (t.gr S.gr) (S.ld (b:=d) (o:=0) m1 rfl) B) ?_;intro I l;have e4:=ag l (Xu t2 H);have e5:=ag l (Xu t3 H);have J:=ag l (show g<_ by omega);have k2:=l.n;replace S:=S.call l;clear l;simp only [BZ,cls,zO,S.ld (b:=f) (o:=2) m0 rfl,S.ld (b:=d) (o:=0) m1 rfl,seval];refine bj (iW S.ok (t.gr S.gr)) ?_;intro K m;have e6:=ag m (show d<I.n by omega);have L:=ag m (show f<I.n by omega);have M:=ag m (show g<_ by omega);have k3:=m.n;replace S:=S.call m;clear m;simp only [BZ,cls,seval];refine bj (rY (a:=0) (b:=i.arcs.length) S.ok (.inl rfl)) ?_;intro N p;have e8:=ag p (show d<K.n by omega);have e9:=ag p (show f<K.n by omega);have O:=ag p (show g<_ by omega);have k4:=p.n;replace S:=S.call p;clear p;simp only [BZ,cls,(u.gr S.gr).lenq,S.ld (b:=f) (o:=3) m0 rfl,S.ld (b:=d) (o:=0) m1 rfl,seval];refine bj (bC S.ok (t.gr S.gr)) ?_;intro y r;have P:=ag r (show d<N.n by omega);have Q:=ag r (show f<N.n by omega);have R:=ag r (show g<_ by omega);have k5:=r.n;replace S:=S.call r;clear r;simp only [BZ,cls,seval];refine bj (rY (a:=pis.length) (b:=i.nodes) S.ok (.inr j)) ?_;intro h6 v;have T:=ag v (show d<y.n by omega);have U:=ag v (show f<y.n by omega);have V:=ag v (show g<y.n by omega);replace S:=S.call v;simp only [BZ,cls,aa,seval];refine⟨by simp only [aI,aO,aF,aK,aH,ne_eq,not_false_eq_true,aU,aY,aN,aJ,bw,bN,aD,Xa,ah,tT,jC,jD,pair_nl,pair_nr,an E,aq E,an F,aq F,an e4,aq e4,an e5,aq e5,an e6,aq e6,an L,aq L,an e8,aq e8,an e9,aq e9,an P,aq P,an Q,aq Q,an T,aq T,an U,aq U,an G,aq G,an J,aq J,an M,aq M,an O,aq O,an R,aq R,an V,aq V,seval],?_⟩;exact S.gr
def dk(i:Bool):Nat:=if i then 1 else 0
def dz(e:Ev2):List Value:=[.int .i64 (e.kind:Nat),.int .i64 (dk e.side:Nat),.int .i64 (e.id:Nat),.int .i64 (e.lab:Nat)]
structure Sx where
 b:Nat
 p:Nat
 ml:Nat
 ma:Nat
 mc:Nat
 vA:Value
 vH:Value
 el:List (Value×Value×Nat)
 cl:Nat
 ea:List (Value×Value×Nat)
 ca:Nat
 ec:List (Value×Value×Nat)
 cc:Nat
variable{X:Bool->Sx}
def kZ(i:Bool):Int:=if i then-1 else 1
def Sx.row(x:Sx)(i:Bool):List Value:=[ptrTo x.p,.int .i64 (dk i:Nat),.int .i64 (kZ i),x.vA,x.vH,.map (some x.ml),.map (some x.ma),.map (some x.mc)]
def Sx.L(x:Sx)(i:Bool):List (Nat×Ob):=[(x.b,.row (x.row i) 1),(x.ml,.map x.el x.cl),(x.ma,.map x.ea x.ca),(x.mc,.map x.ec x.cc)]
structure Sx.Ok(x:Sx)(s:Sd):Prop where
 ml: ∃f,dQ x.el x.cl f/\ ∀v:Nat,f v=(s.L v).map fun(l:Nat)=>Value.int .i64 l
 ma: ∃f,dQ x.ea x.ca f/\ ∀v:Nat,(s.L v).isSome=true->f v=some (.int .i64 (byI (s.P v)))
 mc: ∃f,dQ x.ec x.cc f/\ ∀v:Nat,f v=if v∈s.O then some (.int .i64 1)else none
def ik(pn:Value)(s t:Nat)(vPi:Value)(X:Bool->Sx)(vE:Value)(σ:Bi):List Value:=[pn,.int .i64 (s:Nat),.int .i64 (t:Nat),.slice none 0 0,vPi,ptrTo (X false).b,ptrTo (X true).b,.int .i64 (σ.dist:Nat),.slice none 0 0,vE,.int .i64 (σ.meet:Nat)]
def boL(i:Bool)(br:Nat)(pn:Value)(s t:Nat)(vPi:Value)(X:Bool->Sx)(vE:Value)(σ:Bi):List (Nat×Ob):=(br,.row (ik pn s t vPi X vE σ) 1)::((X i).L i++(X (!i)).L (!i))
def boG(vE:Value)(σ:Bi):List GL:=[(vE,4,σ.ev.flatMap dz)]
structure fD(h:Hp)(br:Nat)(pn:Value)(s t:Nat)(vPi:Value)(X:Bool->Sx)(F:Bool->List Nat)(vE:Value)(N:Nat)(σ:Bi):Prop where
 own: ∀q∈boL false br pn s t vPi X vE σ,Has h q.1 q.2
 ev:ij h (vE,4,σ.ev.flatMap dz)
 nd:(keys (boL false br pn s t vPi X vE σ) (boG vE σ)).Nodup
 heap: ∀i,cF h (F i) (ptrTo (X i).p) N (σ.sd i).K
 ok: ∀i,(X i).Ok (σ.sd i)
 apart: ∀i,∀c∈F i,c∉keys (boL false br pn s t vPi X vE σ) (boG vE σ)/\c∉F (!i)
def boB(br:Nat)(pn:Value)(s t:Nat)(vPi:Value)(X:Bool->Sx)(F:Bool->List Nat)(vE:Value)(σ:Bi):List Nat:=keys (boL false br pn s t vPi X vE σ) (boG vE σ)++(F false++F true)
section
variable{h h':Hp}{br:Nat}{pn:Value}{s t:Nat}{vPi:Value}{X:Bool->Sx}{F:Bool->List Nat}{vE:Value}{N:Nat}{σ:Bi}
theorem pz(i:Bool):List.Perm (boL i br pn s t vPi X vE σ) (boL false br pn s t vPi X vE σ):=by
 cases i with
 |false=>exact List.Perm.refl _|true=>exact List.Perm.cons _ List.perm_append_comm
theorem fD.apart'(a:fD h br pn s t vPi X F vE N σ)(i:Bool){j:Bool}(d:c∈F j):c∉keys (boL i br pn s t vPi X vE σ) (boG vE σ):=fun b=>by
 refine(a.apart j c d).1 ?_;unfold keys at b⊢;rcases List.mem_append.1 b with h|h
 . exact Xf _ (((pz i).map _).mem_iff.1 h)
 . exact Xq _ h
theorem rG(a:c∈F i):c∈boB br pn s t vPi X F vE σ:=Xq _ (by cases i;exact Xf _ a;exact Xq _ a)
theorem fD.mo{M:Nat->Prop}(a:fD h br pn s t vPi X F vE N σ)(g:Mo M h h')(d: ∀b∈boB br pn s t vPi X F vE σ,¬M b):fD h' br pn s t vPi X F vE N σ:=
 ⟨fun q e=>g.has (a.own q e) (d _ (Xf _ (i9 e))),
  a.ev.of_get fun b c=>g.get b (a.ev.lt g.ok0 c) (d b (Xf _ (fJ (p:=(vE,4,σ.ev.flatMap dz)) m0 c))),a.nd,
  fun i=>(a.heap i).mo g (fun b c=>d b (rG c)),a.ok,a.apart⟩
theorem fD.gr(a:fD h br pn s t vPi X F vE N σ)(g:Gr h h'):fD h' br pn s t vPi X F vE N σ:=a.mo (M:=NoM) g.fr (fun _ _ h=>h)
theorem fD.st(a:fD h br pn s t vPi X F vE N σ)(d:OZ h)(i:Bool):St (· ∈boB br pn s t vPi X F vE σ) h h (boL i br pn s t vPi X vE σ) (boG vE σ):=by
 have S:St (· ∈boB br pn s t vPi X F vE σ) h h (boL false br pn s t vPi X vE σ) (boG vE σ):=
  ⟨Mo.refl d,fun p c=>⟨.inr (Xf _ (i9 c)),a.own p c⟩,fun p c=>by
   simp only [boG,List.mem_singleton]at c;subst c;exact⟨a.ev,fun b e=>.inr (Xf _ (fJ (p:=(vE,4,σ.ev.flatMap dz)) m0 e))⟩,a.nd⟩
 exact S.permL (pz i)
theorem fD.of(i:Bool)(S:St M h0 h (boL i br pn s t vPi X vE σ) (boG vE σ))(e: ∀i,cF h (F i) (ptrTo (X i).p) N (σ.sd i).K)(f: ∀i,(X i).Ok (σ.sd i))(a: ∀j,∀c∈F j,c∉keys (boL i br pn s t vPi X vE σ) (boG vE σ)/\c∉F (!j)):fD h br pn s t vPi X F vE N σ:=by
 have T:=S.permL (pz (br:=br) (pn:=pn) (s:=s) (t:=t) (vPi:=vPi) (X:=X) (vE:=vE) (σ:=σ) i).symm;refine⟨fun q g=>(T.own q g).2,(T.gown _ m0).1,T.apart,e,f,fun j c b=>⟨fun d=>(a j c b).1 ?_,(a j c b).2⟩⟩;unfold keys at d⊢;rcases List.mem_append.1 d with h|h
 . exact Xf _ (((pz i).map _).mem_iff.2 h)
 . exact Xq _ h
theorem fD.rows(a:fD h br pn s t vPi X F vE N σ):Row h br (ik pn s t vPi X vE σ) 1/\ ∀i,Row h (X i).b ((X i).row i) 1:=by
 refine⟨a.own (br,.row _ 1) (by simp [boL]),fun i=>?_⟩;cases i
 . exact a.own ((X false).b,.row _ 1) (by simp [boL,Sx.L])
 . exact a.own ((X true).b,.row _ 1) (by simp [boL,Sx.L])
end
theorem CY(x:OZ h0)(a:fD h0 br pn s t vPi X F vE N σ)(y: ∀i v k,(σ.sd i).K v=some k-> -1000000000000000000<=k/\k<=1000000000000000000)(J:σ.dist<=FAR):Ret zM 134 [ptrTo br] h0 fun r h'=>Gr h0 h'/\((StopB σ/\r=.pointer none)\/ ∃i,TurnB σ i/\r=ptrTo (X i).b):=by
 have S:=Si x;have K:=hU;obtain⟨R,z⟩:=a.rows;obtain⟨b,L,B,C⟩:=uX x (a.heap false);have e:=R.load1 (o:=5) rfl;have f:=R.load1 (o:=6) rfl;have d:=R.load1 (o:=7) rfl;have D:=(z false).load1 (o:=0) rfl;have q:=(z true).load1 (o:=0) rfl;refine erA (n:=64) (rs:=[.tmp 2]) e134 ?_;simp only [BZ,zO,e,D,seval];refine ae B ?_;intro M g;replace S:=S.call g;obtain⟨c,O,E,G⟩:=uX S.ok ((a.heap true).gr g);replace e:=g.load e;replace f:=g.load f;replace d:=g.load d;replace q:=g.load q;simp only [BZ,zO,f,q,seval];refine ae E ?_;intro P h;replace S:=S.call h;replace e:=h.load e;replace f:=h.load f;replace d:=h.load d;rcases C with⟨rfl,H⟩|⟨rfl,j,l⟩
 . simp only [BZ,aa,seval];exact⟨S.gr,.inl (.inl ⟨false,H⟩)⟩
 . rcases G with⟨rfl,I⟩|⟨rfl,m,t1⟩
   . simp only [BZ,aa,seval];exact⟨S.gr,.inl (.inl ⟨true,I⟩)⟩
   . have Q:=y false j b l.1;have T:=y true m c t1.1;have u:am .i64 (b+c)=b+c:=(by rw [wrap64]<;>omega);have w:am .i64 (2*(σ.dist:Int))=2*(σ.dist:Int):=(by rw [wrap64]<;>omega);by_cases p:2*(σ.dist:Int)<=b+c
     . simp only [BZ,aa,d,u,w,p,seval];exact⟨S.gr,.inl (.inr ⟨j,b,m,c,l,t1,p⟩)⟩
     . by_cases A:b<=c
       . simp only [BZ,aa,zO,d,u,w,p,A,e,seval];exact⟨S.gr,.inr ⟨false,⟨j,b,m,c,l,t1,by omega,(decide_eq_false (by omega)).symm⟩,rfl⟩⟩
       . simp only [BZ,aa,zO,d,u,w,p,A,f,seval];exact⟨S.gr,.inr ⟨true,⟨j,b,m,c,l,t1,by omega,(decide_eq_true (by omega)).symm⟩,rfl⟩⟩
theorem breach_ok(ok:OZ h0)(a:fD h0 br pn s t vPi X F vE N σ)(sP:aw h0 1 (encI .i64) vPi pis)(lP:pis.length=N\/pis=[]/\vPi=.slice none 0 0)(nP: ∀c,ar vPi c->c∉boB br pn s t vPi X F vE σ)(hN:N<=12){p:List Nat}(hv:v<N)(hl:lab<=13*cg)(hd:σ.dist<=FAR)(hb: ∀j v l,(σ.sd j).L v=some l->l<=13*cg)(bn: ∀l,(σ.sd i).L v=some l->v∉(σ.sd i).O->(σ.sd i).K v=some (2*l+qB (fun v=>pis.getD v 0) i v))(bo:(σ.sd i).L v=none->(σ.sd i).K v=none):Ret zM 133 [ptrTo br,ptrTo (X i).b,.int .i64 (v:Nat),.int .i64 (byI p),.int .i64 (lab:Nat)] h0 fun _ h'=>Mo (· ∈boB br pn s t vPi X F vE σ) h0 h'/\ ∃A F',fD h' br pn s t vPi A F' vE N (du (fun v=>pis.getD v 0) i σ v lab p)/\(∀j,(A j).b=(X j).b/\(A j).vA=(X j).vA/\(A j).vH=(X j).vH)/\ ∀c∈boB br pn s t vPi A F' vE (du (fun v=>pis.getD v 0) i σ v lab p),c∈boB br pn s t vPi X F vE σ\/h0.n<=c:=by
 have fr:=hU;have wm:=kK;have S:=a.st ok i;have T:du (fun v=>pis.getD v 0) i σ v lab p=σ-> ∀h,Gr h0 h->Mo (· ∈boB br pn s t vPi X F vE σ) h0 h/\ ∃A F',fD h br pn s t vPi A F' vE N (du (fun v=>pis.getD v 0) i σ v lab p)/\(∀j,(A j).b=(X j).b/\(A j).vA=(X j).vA/\(A j).vH=(X j).vH)/\ ∀c∈boB br pn s t vPi A F' vE (du (fun v=>pis.getD v 0) i σ v lab p),c∈boB br pn s t vPi X F vE σ\/h0.n<=c:=
  fun e h g=>⟨g.fr,X,F,by rw [e];exact a.gr g,fun _=>⟨rfl,rfl,rfl⟩,fun c d=>.inl (by rw [e]at d;exact d)⟩
 have Ho:=a.ok i;have Hq:=a.ok (!i);have H:=a.heap i;have Hx:=a.heap (!i);have hk:=fun j c (d:c∈F j)=>a.apart' i d;have ad: ∀j,∀c∈F j,c∈boB br pn s t vPi X F vE σ\/h0.n<=c:=fun j c d=>.inl (rG d);generalize bx:boB br pn s t vPi X F vE σ=BB at S T ad;rcases hX:X i with⟨y,xp,xl,xa,xc,vA,vH,el,cl,ea,ca,ec,cc⟩;rcases hY:X (!i)with⟨yb,yp,yl,ya,yc,wA,wH,fl,dl,fa,da,fc,dc⟩;rw [hX]at Ho H;rw [hY]at Hq Hx;obtain⟨gl,ML,bf⟩:=Ho.ml;obtain⟨ga,MA,bp⟩:=Ho.ma;obtain⟨gc,MC,bh⟩:=Ho.mc;simp only []at ML MA MC;simp only [LC,boL,boG,ik,Sx.L,Sx.row,hX,hY]at S hk;have f: ∀j,∀c∈F j,c≠br/\c≠y/\c≠xl/\c≠xa:=fun j c d=>by have h:=hk j c d;simp only [keys,Xm,List.mem_append,Xw,not_or]at h;exact⟨h.1.1,h.1.2.1,h.1.2.2.1,h.1.2.2.2.1⟩
 have l4:h0.load br 4 1=some [vPi]:=S.ld (b:=br) (o:=4) m0 rfl;have a7:=fun c d=>S.key_lt (b:=c) d;have af: ∀j:Bool,j≠i->j= !i:=fun j h=>by cases i<;>cases j<;>first|rfl|exact absurd rfl h
 have bi:(!i)≠i:=by cases i<;>decide
 have W : ∀(h':Hp) (F6:List Nat) (J K:List (Value×Value×Nat)) (Y Z:Nat) (U:Bi),U=du (fun v=>pis.getD v 0) i σ v lab p->U.sd=dK σ.sd i (eY (fun v=>pis.getD v 0) (σ.sd i) i v lab p)->U.ev=σ.ev->
  St (· ∈BB) h0 h' [(br,.row [pn,.int .i64 (s:Nat),.int .i64 (t:Nat),.slice none 0 0,vPi,ptrTo (X false).b,ptrTo (X true).b,.int .i64 (U.dist:Nat),.slice none 0 0,vE,.int .i64 (U.meet:Nat)] 1),(y,.row [ptrTo xp,.int .i64 (dk i:Nat),.int .i64 (kZ i),vA,vH,.map (some xl),.map (some xa),.map (some xc)] 1),(xl,.map J Y),(xa,.map K Z),(xc,.map ec cc),(yb,.row [ptrTo yp,.int .i64 (dk (!i):Nat),.int .i64 (kZ (!i)),wA,wH,.map (some yl),.map (some ya),.map (some yc)] 1),(yl,.map fl dl),(ya,.map fa da),(yc,.map fc dc)] [(vE,4,σ.ev.flatMap dz)]->
  cF h' F6 (ptrTo xp) N (dw (σ.sd i).K v (some (2*lab+qB (fun v=>pis.getD v 0) i v)))->cF h' (F (!i)) (ptrTo yp) N (σ.sd (!i)).K->(∀c∈F6,c∈F i\/h0.n<=c)->dQ J Y (dY gl v (some (.int .i64 (lab:Nat))))->dQ K Z (dY ga v (some (.int .i64 (byI p))))->
  Mo (· ∈BB) h0 h'/\ ∃A F',fD h' br pn s t vPi A F' vE N (du (fun v=>pis.getD v 0) i σ v lab p)/\(∀j,(A j).b=(X j).b/\(A j).vA=(X j).vA/\(A j).vH=(X j).vH)/\ ∀c∈boB br pn s t vPi A F' vE (du (fun v=>pis.getD v 0) i σ v lab p),c∈BB\/h0.n<=c:=by
  intro h' F6 J K Y Z U bq e1 e2 S H6 E B G I;rw [<-bq]
  let A:Bool->Sx:=fun j=>if j=i then⟨y,xp,xl,xa,xc,vA,vH,J,Y,K,Z,ec,cc⟩else X j
  let F':Bool->List Nat:=fun j=>if j=i then F6 else F j
  have xi:A i=⟨y,xp,xl,xa,xc,vA,vH,J,Y,K,Z,ec,cc⟩:=if_pos rfl;have xo:A (!i)=X (!i):=if_neg bi;have fi:F' i=F6:=if_pos rfl;have fo:F' (!i)=F (!i):=if_neg bi;have a8: ∀j,(A j).b=(X j).b/\(A j).vA=(X j).vA/\(A j).vH=(X j).vH:=fun j=>by
   by_cases V:j=i
   . subst V;rw [xi,hX];exact⟨rfl,rfl,rfl⟩
   . rw [af j V,xo];exact⟨rfl,rfl,rfl⟩
  have eL:boL i br pn s t vPi A vE U=[(br,.row [pn,.int .i64 (s:Nat),.int .i64 (t:Nat),.slice none 0 0,vPi,ptrTo (X false).b,ptrTo (X true).b,.int .i64 (U.dist:Nat),.slice none 0 0,vE,.int .i64 (U.meet:Nat)] 1),(y,.row [ptrTo xp,.int .i64 (dk i:Nat),.int .i64 (kZ i),vA,vH,.map (some xl),.map (some xa),.map (some xc)] 1),(xl,.map J Y),(xa,.map K Z),(xc,.map ec cc),(yb,.row [ptrTo yp,.int .i64 (dk (!i):Nat),.int .i64 (kZ (!i)),wA,wH,.map (some yl),.map (some ya),.map (some yc)] 1),(yl,.map fl dl),(ya,.map fa da),(yc,.map fc dc)]:=by simp only [boL,ik,Sx.L,Sx.row,xi,xo,hY,(a8 false).1,(a8 true).1,XL,XX]
  have eG:boG vE U=[(vE,4,σ.ev.flatMap dz)]:=by unfold boG;rw [e2]
  have oh: ∀c,c∈keys (boL i br pn s t vPi A vE U) (boG vE U)->c<h0.n:=fun c d=>by rw [eL,eG]at d;exact a7 c d
  have a5: ∀c,c∈F i\/c∈F (!i)->c∉keys (boL i br pn s t vPi A vE U) (boG vE U):=fun c d M=>by rw [eL,eG]at M;exact d.elim (fun h=>hk i c h M) (fun h=>hk (!i) c h M)
  rw [<-eL,<-eG]at S;have ap:=fun j c (d:c∈F j)=>(a.apart j c d).2;have lF:=fun j=>(a.heap j).lt ok;refine⟨S.fr,A,F',fD.of i S (fun j=>?_) (fun j=>?_) (fun j c d=>?_),a8,fun c d=>?_⟩
  . by_cases V:j=i
    . subst V;rw [fi,xi,e1,fj];exact H6
    . rw [af j V,fo,xo,e1,nQ,hY];exact E
  . by_cases V:j=i
    . subst V;rw [xi,e1,fj];refine⟨⟨_,G,fun u=>?_⟩,⟨_,I,fun u hu=>?_⟩,⟨gc,MC,bh⟩⟩
      . simp only [dY,eY];by_cases hu:u=v
        . subst hu;simp
        . rw [if_neg (by omega),if_neg hu];exact bf u
      . simp only [dY,eY,ng]at hu⊢;by_cases ba:u=v
        . subst ba;simp
        . rw [if_neg (by omega),if_neg ba];rw [if_neg ba]at hu;exact bp u hu
    . rw [af j V,xo,e1,nQ];exact a.ok _
  . by_cases V:j=i
    . subst V;rw [fi]at d;rw [fo];rcases B c d with h|h
      . exact⟨a5 c (.inl h),ap _ c h⟩
      . exact⟨fun M=>by have:=oh c M;omega,fun M=>by have:=lF _ c M;omega⟩
    . rw [af j V]at d⊢;rw [fo]at d;rw [Ym,fi];refine⟨a5 c (.inr d),fun M=>?_⟩;rcases B c M with h|h
      . exact ap _ c h d
      . have:=lF _ c d;omega
  . have hB: ∀j,∀c∈F' j,c∈BB\/h0.n<=c:=fun j c d=>by
     by_cases V:j=i
     . subst V;rw [fi]at d;exact(B c d).elim (fun h=>ad _ c h) .inr
     . rw [af j V,fo]at d;exact ad _ c d
    rcases List.mem_append.1 d with d|d
    . refine(S.key_own ?_).symm;unfold keys at d⊢;rcases List.mem_append.1 d with h|h
      . exact Xf _ (((pz i).map _).mem_iff.2 h)
      . exact Xq _ h
    . rcases List.mem_append.1 d with d|d
      . exact hB _ c d
      . exact hB _ c d
 refine erA (n:=132) (rs:=[]) e133 ?_;simp only [BZ,seval];refine ae (bpi_ok S.ok l4 sP (lP.imp (fun e=>by omega) id)) ?_;intro h1 g1;replace S:=S.call g1;replace H:=H.gr g1;replace Hx:=Hx.gr g1;have D:=nY (x:=(v:Int)) t272.1 Tryz.t3.1 (z:=.int .i64 0) (by kernel_rfl) (show h1.get xl=some (.map el cl)from(S.own _ m2).2) ML;have O:=lJ (x:=(v:Int)) t230.1 Tryz.t3.1 (z:=.int .i64 0) (by kernel_rfl) (show h1.get xc=some (.map ec cc)from(S.own _ m4).2) MC;rw [bf]at D;rw [bh]at O;generalize hp:pis.getD v 0=pv;by_cases L:OpB (fun v=>pis.getD v 0) v
 . have ho : decide (-(FAR:Int)<pv/\pv<FAR)=true:=decide_eq_true (by rw [<-hp];exact L);by_cases hO:v∈(σ.sd i).O
   . rw [if_pos hO]at O;simp only [BZ,ho,D,O,Xx,S.ld (b:=y) (o:=5) m1 rfl,S.ld (b:=y) (o:=7) m1 rfl,seval];exact T (by unfold du;rw [if_pos (.inl hO)]) _ g1
   . rw [if_neg hO]at O;have bk:am .i64 (2*(lab:Int))=2*(lab:Int):=(by rw [wrap64]<;>omega);have bB: -(FAR:Int)<pv/\pv<FAR:=of_decide_eq_true ho;have bl:am .i64 (kZ i*pv)=kZ i*pv:=(by rw [wrap64]<;>cases i<;>simp only [kZ,if_true,if_false,XB]<;>omega);have Q:kZ i*pv=qB (fun v=>pis.getD v 0) i v:=(by unfold qB;simp only [hp];cases i<;>simp [kZ]);have a6:am .i64 (2*(lab:Int)+kZ i*pv)=2*(lab:Int)+kZ i*pv:=(by rw [wrap64]<;>cases i<;>simp only [kZ,if_true,if_false,XB]<;>omega);cases hL:(σ.sd i).L v with
     | none =>
       rw [hL]at D;simp only [Yb,XT,Yn]at D;have R:du (fun v=>pis.getD v 0) i σ v lab p=rV ((σ.sd (!i)).L v) ⟨dK σ.sd i (eY (fun v=>pis.getD v 0) (σ.sd i) i v lab p),σ.ev,σ.dist,σ.meet⟩ v lab:=(by unfold du;rw [if_neg (by rw [hL];rintro(h|h|h);exact hO h;exact h L;cases h)]);simp only [BZ,ho,D,O,XT,S.ld (b:=y) (o:=5) m1 rfl,S.ld (b:=y) (o:=7) m1 rfl,seval];refine ao (av rfl) (q:=0) (ps:=[]) (by kernel_rfl) ?_;simp only [BZ,cls,S.ld (b:=y) (o:=5) m1 rfl,S.ld (b:=y) (o:=6) m1 rfl,seval];obtain⟨h2,n1,e1,ai,bs,bt,_,S1,bb⟩:=S.mentI (i:=2) (x:=(v:Int)) rfl t272.1 Tryz.t3.1 (z:=.int .i64 0) (by kernel_rfl) ML;refine lu (P:=fun h' v'=>h'=h2/\v'=.tuple #[(gl v).getD (.int .i64 0),.int .i64 (Yl n1)]) ⟨h2,_,e1,rfl,rfl⟩ ?_;rintro h' v' ⟨rfl,rfl⟩;clear S;have S:=S1;clear S1;simp only [LC]at S;obtain⟨J,ak,G⟩:=bb (.int .i64 (lab:Nat));simp only [BZ,cls,XQ,seval];refine cJ (S.mstoreI (i:=2) rfl ak) ?_;clear S;rintro h3 ⟨al,S⟩;simp only [LC]at S;simp only [BZ,cls,seval];obtain⟨h4,n2,e2,ax,bu,bv,_,S1,bc⟩:=S.mentI (i:=3) (x:=(v:Int)) rfl t230.1 Tryz.t3.1 (z:=.int .i64 0) (by kernel_rfl) MA;refine lu (P:=fun h' v'=>h'=h4/\v'=.tuple #[(ga v).getD (.int .i64 0),.int .i64 (Yl n2)]) ⟨h4,_,e2,rfl,rfl⟩ ?_;rintro h' v' ⟨rfl,rfl⟩;clear S;have S:=S1;clear S1;simp only [LC]at S;obtain⟨K,ay,I⟩:=bc (.int .i64 (byI p));simp only [BZ,cls,XQ,seval];refine cJ (S.mstoreI (i:=3) rfl ay) ?_;clear S;rintro h5 ⟨aL,S⟩;simp only [LC]at S;simp only [BZ,bk,bl,a6,S.ld (b:=y) (o:=2) m1 rfl,S.ld (b:=y) (o:=0) m1 rfl,seval];have H5:=(((H.mo ai (fun c d=>(f i c d).2.2.1)).mo al (fun c d=>(f i c d).2.2.1)).mo ax (fun c d=>(f i c d).2.2.2)).mo aL (fun c d=>(f i c d).2.2.2);have bd:=(((Hx.mo ai (fun c d=>(f _ c d).2.2.1)).mo al (fun c d=>(f _ c d).2.2.1)).mo ax (fun c d=>(f _ c d).2.2.2)).mo aL (fun c d=>(f _ c d).2.2.2);refine step_ret (qd S.ok H5 hv (by omega) (bo hL)) ?_;rintro r h6 ⟨f6,F6,H6,bm⟩;have k5:=S.fr.n;have B: ∀c∈F6,c∈F i\/h0.n<=c:=fun c d=>(bm c d).imp (fun h=>h) (fun h=>by omega);have E:=bd.mo f6 (fun c d M=>(a.apart (!i) c d).2 (by rw [Ym];exact M));replace S:=S.stepF f6 (fun c d=>⟨ad i c d,hk i c d⟩);simp only [BZ];refine ao (av rfl) (q:=0) (ps:=[]) (by kernel_rfl) ?_;have wo:am .i64 (1-((dk i:Nat):Int))=((dk (!i):Nat):Int):=(by cases i<;>rfl);have io:i6 (.int .i64 ((dk (!i):Nat):Int)) 2=some (dk (!i)):=iQ (by cases i<;>decide);have ly:h6.load br (5+dk (!i)) 1=some [ptrTo yb]:=S.ld (b:=br) m0 (by
        cases i
        . show some (ptrTo (X true).b)=_;rw [show X true=_ from hY]
        . show some (ptrTo (X false).b)=_;rw [show X false=_ from hY])
       obtain⟨gq,MQ,be⟩:=Hq.ml;have w:=nY (x:=(v:Int)) t272.1 Tryz.t3.1 (z:=.int .i64 0) (by kernel_rfl) (show h6.get yl=some (.map fl dl)from(S.own _ m6).2) MQ;rw [be]at w;cases hM:(σ.sd (!i)).L v with
       | none=>
         rw [hM]at w;simp only [Yb,XT,Yn]at w;simp only [BZ,cls,wo,io,ly,w,S.ld (b:=y) (o:=1) m1 rfl,S.ld (b:=yb) (o:=5) m5 rfl,seval];refine W _ F6 _ _ _ _ ⟨dK σ.sd i (eY (fun v=>pis.getD v 0) (σ.sd i) i v lab p),σ.ev,σ.dist,σ.meet⟩ ?_ rfl rfl S (by rw [<-Q];exact H6) E B G I;rw [R,hM];rfl
       | some m=>
         have M:=hb _ v m hM;have a0:am .i64 ((lab:Int)+(m:Int))=((lab+m:Nat):Int):=(by rw [wrap64]<;>omega);rw [hM]at w;simp only [XU,Xx,Yo]at w;by_cases hlt:lab+m<σ.dist
         . have C:((lab+m:Nat):Int)<(σ.dist:Int):=(by omega);simp only [BZ,cls,wo,io,ly,w,a0,C,S.ld (b:=y) (o:=1) m1 rfl,S.ld (b:=yb) (o:=5) m5 rfl,S.ld (b:=br) (o:=7) m0 rfl,seval];refine az (aA S (i:=0) rfl Tryz.t2.2.2.1 aM (Xb (lbt rfl)) ono) ?_;clear S;rintro h7 ⟨S,a1⟩;simp only [LC]at S;simp only [BZ,seval];refine az (aA S (i:=0) rfl Tryz.t3.2.2.1 aM (Xb (lbt rfl)) ono) ?_;clear S;rintro h8 ⟨S,a2⟩;simp only [LC]at S;simp only [BZ];have a3: ∀c∈F6,¬c=br:=fun c d=>by
            rcases B c d with h|h
            . exact(f i c h).1
            . have:=a7 br (Xf _ (XG));intro e;omega
           refine W _ F6 _ _ _ _ ⟨dK σ.sd i (eY (fun v=>pis.getD v 0) (σ.sd i) i v lab p),σ.ev,lab+m,v⟩ ?_ rfl rfl S (by rw [<-Q];exact(H6.mo a1 a3).mo a2 a3) ((E.mo a1 (fun c d=>(f _ c d).1)).mo a2 (fun c d=>(f _ c d).1)) B G I;rw [R,hM];exact(if_pos hlt).symm
         . have C: ¬((lab+m:Nat):Int)<(σ.dist:Int):=(by omega);simp only [BZ,cls,wo,io,ly,w,a0,C,S.ld (b:=y) (o:=1) m1 rfl,S.ld (b:=yb) (o:=5) m5 rfl,S.ld (b:=br) (o:=7) m0 rfl,seval];refine W _ F6 _ _ _ _ ⟨dK σ.sd i (eY (fun v=>pis.getD v 0) (σ.sd i) i v lab p),σ.ev,σ.dist,σ.meet⟩ ?_ rfl rfl S (by rw [<-Q];exact H6) E B G I;rw [R,hM];exact(if_neg hlt).symm
     | some l =>
       rw [hL]at D;simp only [XU,Xx,Yo]at D;by_cases hle:l<=lab
       . have a4:(l:Int)<=(lab:Int):=(by omega);simp only [BZ,ho,D,O,XT,a4,S.ld (b:=y) (o:=5) m1 rfl,S.ld (b:=y) (o:=7) m1 rfl,seval];exact T (by unfold du;rw [if_pos (.inr (.inr (by rw [hL];exact decide_eq_true hle)))]) _ g1
       . have a4: ¬(l:Int)<=(lab:Int):=(by omega);have R:du (fun v=>pis.getD v 0) i σ v lab p=rV ((σ.sd (!i)).L v) ⟨dK σ.sd i (eY (fun v=>pis.getD v 0) (σ.sd i) i v lab p),σ.ev,σ.dist,σ.meet⟩ v lab:=(by unfold du;rw [if_neg (by rw [hL];rintro(h|h|h);exact hO h;exact h L;exact hle (of_decide_eq_true h))]);simp only [BZ,ho,D,O,XT,a4,S.ld (b:=y) (o:=5) m1 rfl,S.ld (b:=y) (o:=7) m1 rfl,seval];refine ao (av rfl) (q:=0) (ps:=[]) (by kernel_rfl) ?_;simp only [BZ,cls,S.ld (b:=y) (o:=5) m1 rfl,S.ld (b:=y) (o:=6) m1 rfl,seval];obtain⟨h2,n1,e1,ai,bs,bt,_,S1,bb⟩:=S.mentI (i:=2) (x:=(v:Int)) rfl t272.1 Tryz.t3.1 (z:=.int .i64 0) (by kernel_rfl) ML;refine lu (P:=fun h' v'=>h'=h2/\v'=.tuple #[(gl v).getD (.int .i64 0),.int .i64 (Yl n1)]) ⟨h2,_,e1,rfl,rfl⟩ ?_;rintro h' v' ⟨rfl,rfl⟩;clear S;have S:=S1;clear S1;simp only [LC]at S;obtain⟨J,ak,G⟩:=bb (.int .i64 (lab:Nat));simp only [BZ,cls,XQ,seval];refine cJ (S.mstoreI (i:=2) rfl ak) ?_;clear S;rintro h3 ⟨al,S⟩;simp only [LC]at S;simp only [BZ,cls,seval];obtain⟨h4,n2,e2,ax,bu,bv,_,S1,bc⟩:=S.mentI (i:=3) (x:=(v:Int)) rfl t230.1 Tryz.t3.1 (z:=.int .i64 0) (by kernel_rfl) MA;refine lu (P:=fun h' v'=>h'=h4/\v'=.tuple #[(ga v).getD (.int .i64 0),.int .i64 (Yl n2)]) ⟨h4,_,e2,rfl,rfl⟩ ?_;rintro h' v' ⟨rfl,rfl⟩;clear S;have S:=S1;clear S1;simp only [LC]at S;obtain⟨K,ay,I⟩:=bc (.int .i64 (byI p));simp only [BZ,cls,XQ,seval];refine cJ (S.mstoreI (i:=3) rfl ay) ?_;clear S;rintro h5 ⟨aL,S⟩;simp only [LC]at S;simp only [BZ,bk,bl,a6,S.ld (b:=y) (o:=2) m1 rfl,S.ld (b:=y) (o:=0) m1 rfl,seval];have H5:=(((H.mo ai (fun c d=>(f i c d).2.2.1)).mo al (fun c d=>(f i c d).2.2.1)).mo ax (fun c d=>(f i c d).2.2.2)).mo aL (fun c d=>(f i c d).2.2.2);have bd:=(((Hx.mo ai (fun c d=>(f _ c d).2.2.1)).mo al (fun c d=>(f _ c d).2.2.1)).mo ax (fun c d=>(f _ c d).2.2.2)).mo aL (fun c d=>(f _ c d).2.2.2);refine step_ret (rL S.ok H5 (by omega) (bn l hL hO) (k:=2*(lab:Int)+kZ i*pv) (by rw [Q];omega)) ?_;rintro r h6 ⟨f6,H6⟩;have B: ∀c∈F i,c∈F i\/h0.n<=c:=fun c d=>.inl d;have E:=bd.mo f6 (fun c d M=>(a.apart (!i) c d).2 (by rw [Ym];exact M));replace S:=S.stepF f6 (fun c d=>⟨ad i c d,hk i c d⟩);simp only [BZ];refine ao (av rfl) (q:=0) (ps:=[]) (by kernel_rfl) ?_;have wo:am .i64 (1-((dk i:Nat):Int))=((dk (!i):Nat):Int):=(by cases i<;>rfl);have io:i6 (.int .i64 ((dk (!i):Nat):Int)) 2=some (dk (!i)):=iQ (by cases i<;>decide);have ly:h6.load br (5+dk (!i)) 1=some [ptrTo yb]:=S.ld (b:=br) m0 (by
          cases i
          . show some (ptrTo (X true).b)=_;rw [show X true=_ from hY]
          . show some (ptrTo (X false).b)=_;rw [show X false=_ from hY])
         obtain⟨gq,MQ,be⟩:=Hq.ml;have w:=nY (x:=(v:Int)) t272.1 Tryz.t3.1 (z:=.int .i64 0) (by kernel_rfl) (show h6.get yl=some (.map fl dl)from(S.own _ m6).2) MQ;rw [be]at w;cases hM:(σ.sd (!i)).L v with
         | none=>
           rw [hM]at w;simp only [Yb,XT,Yn]at w;simp only [BZ,cls,wo,io,ly,w,S.ld (b:=y) (o:=1) m1 rfl,S.ld (b:=yb) (o:=5) m5 rfl,seval];refine W _ (F i) _ _ _ _ ⟨dK σ.sd i (eY (fun v=>pis.getD v 0) (σ.sd i) i v lab p),σ.ev,σ.dist,σ.meet⟩ ?_ rfl rfl S (by rw [<-Q];exact H6) E B G I;rw [R,hM];rfl
         | some m=>
           have M:=hb _ v m hM;have a0:am .i64 ((lab:Int)+(m:Int))=((lab+m:Nat):Int):=(by rw [wrap64]<;>omega);rw [hM]at w;simp only [XU,Xx,Yo]at w;by_cases hlt:lab+m<σ.dist
           . have C:((lab+m:Nat):Int)<(σ.dist:Int):=(by omega);simp only [BZ,cls,wo,io,ly,w,a0,C,S.ld (b:=y) (o:=1) m1 rfl,S.ld (b:=yb) (o:=5) m5 rfl,S.ld (b:=br) (o:=7) m0 rfl,seval];refine az (aA S (i:=0) rfl Tryz.t2.2.2.1 aM (Xb (lbt rfl)) ono) ?_;clear S;rintro h7 ⟨S,a1⟩;simp only [LC]at S;simp only [BZ,seval];refine az (aA S (i:=0) rfl Tryz.t3.2.2.1 aM (Xb (lbt rfl)) ono) ?_;clear S;rintro h8 ⟨S,a2⟩;simp only [LC]at S;simp only [BZ];have a3: ∀c∈F i,¬c=br:=fun c d=>by
              rcases B c d with h|h
              . exact(f i c h).1
              . have:=a7 br (Xf _ (XG));intro e;omega
             refine W _ (F i) _ _ _ _ ⟨dK σ.sd i (eY (fun v=>pis.getD v 0) (σ.sd i) i v lab p),σ.ev,lab+m,v⟩ ?_ rfl rfl S (by rw [<-Q];exact(H6.mo a1 a3).mo a2 a3) ((E.mo a1 (fun c d=>(f _ c d).1)).mo a2 (fun c d=>(f _ c d).1)) B G I;rw [R,hM];exact(if_pos hlt).symm
           . have C: ¬((lab+m:Nat):Int)<(σ.dist:Int):=(by omega);simp only [BZ,cls,wo,io,ly,w,a0,C,S.ld (b:=y) (o:=1) m1 rfl,S.ld (b:=yb) (o:=5) m5 rfl,S.ld (b:=br) (o:=7) m0 rfl,seval];refine W _ (F i) _ _ _ _ ⟨dK σ.sd i (eY (fun v=>pis.getD v 0) (σ.sd i) i v lab p),σ.ev,σ.dist,σ.meet⟩ ?_ rfl rfl S (by rw [<-Q];exact H6) E B G I;rw [R,hM];exact(if_neg hlt).symm
 . have ho:decide (-(FAR:Int)<pv/\pv<FAR)=false:=decide_eq_false (by rw [<-hp];exact L);simp only [BZ,ho,D,S.ld (b:=y) (o:=5) m1 rfl,seval];exact T (by unfold du;rw [if_pos (.inr (.inl L))]) _ g1
theorem cF.lo{h:Hp}{F:List Nat}{p:Value}{N x:Nat}{K:Nat->Option Int}(a:cF h F p N K):cF {h with lo:=x} F p N K:=by obtain⟨c,d,l,e,f,g,i,j⟩:=a.ex;exact⟨⟨c,d,l,e,f,g,i,j.imp (fun h=>h) (fun⟨m,b,e,k⟩=>⟨m,b,e,⟨k.row,k.ex,k.ne⟩⟩)⟩⟩
theorem AP(l:OZ h0){L:Nat}{f:Gra}(M:aP h0 L (ptrTo r) f){a:List Value}(R:Row h0 br a 1)(d:a[0]? =some (ptrTo r))(g:a.length=11)(O:Fl vA)(Q:Fl j):Ret zM 128 [ptrTo br,.int .i64 (dk i:Nat),.int .i64 (v:Nat),.int .i64 (kZ i),vA,j] h0 fun _ h'=>Mo (· =br) h0 h'/\ ∃(x:Sx) (F:List Nat),Row h' br (a.set (5+dk i) (ptrTo x.b)) 1/\(∀q∈x.L i,Has h' q.1 q.2)/\x.vA=vA/\x.vH=j/\x.Ok iT/\cF h' F (ptrTo x.p) f.nodes (fun _=>none)/\(∀c∈keys (x.L i) []++F,h0.n<=c)/\(keys (x.L i) []).Nodup/\ ∀c∈F,c∉keys (x.L i) []:=by
 have S:=St.init1 l (o:=.row a 1) R;have U:=R.load1 (o:=0) d;refine erA (n:=32) (rs:=[]) e128 ?_;simp only [BZ];refine ao (av rfl) (q:=94400) (ps:=[]) (by kernel_rfl) ?_;simp only [BZ,cls,U,seval];refine rf (bC (h0:={h0 with lo:=h0.n}) S.ok (M.keep l (fun _ _=>rfl))) ?_;intro m s;replace S:=S.call s;simp only [BZ,cls,seval];refine dq_ret (P:=fun v h'=> ∃F,cF h' F v f.nodes (fun _=>none)/\ ∀b∈F,m.n<=b) ((um (h0:={m with lo:=m.n}) S.ok (N:=f.nodes)).mono fun v h' h=>⟨h.1,h.2.imp fun F h=>⟨h.1.lo,h.2⟩⟩) ?_;rintro t h2 p ⟨F,H,u⟩;replace S:=S.call p;have V:=S;replace S:=S.base;simp only [LC,keys,Xm,Xt,Xo]at S;have W:Fl t:=by obtain⟨_,_,_,rfl,_⟩:=H.ex;exact bA
 simp only [BZ,cls,seval];refine cV lM S ?_;clear S;intro h X S w y;simp only [BZ,cls,seval];refine cV lM S ?_;clear S;intro h Y S z A;simp only [BZ,cls,seval];refine cV lM S ?_;clear S;intro h Z S B C;simp only [BZ,cls,W,O,Q,seval];refine cV (aW (by intro x e;cases e)) S ?_;clear S;intro h xb S D E;simp only [ac]at S;have io:i6 (.int .i64 ((dk i:Nat):Int)) 2=some (dk i):=iQ (by cases i<;>decide);simp only [BZ,cls,io,seval];refine cJ (aA S (i:=4) rfl t207.2.2.1 bA (by rw [g];cases i<;>decide) ono) ?_;clear S;rintro G ⟨S,mo⟩;simp only [LC]at S;simp only [BZ,seval];have k2:=p.n;have k1:=s.n;obtain⟨I,ep⟩: ∃b,t=ptrTo b:=by obtain⟨b,_,_,e,_⟩:=H.ex;exact⟨b,e⟩
 subst ep;have lF:=H.lt p.ok;have zb:=R.lt l;have H9:cF G F (ptrTo I) f.nodes (fun _=>none):=H.mo S.fr (fun c d k=>by
  have:=u c d;have:c=br:=by simpa using k
  omega)
 have J:=S.apart;simp only [keys,Xm,Xt,Xo,Xh,XV,Xw,Xr,or_false,not_or]at J;have T:St (· =br) h0 G _ _:=V.rebase S;refine⟨T.fr,⟨xb,I,X,Y,Z,vA,j,[],0,[],0,[],0⟩,F,T.row m4,?_,rfl,rfl,?_,H9,?_,?_,?_⟩
 . intro q K;simp only [Sx.L,Sx.row,Xw,Xr,or_false]at K;rcases K with rfl|rfl|rfl|rfl
   . exact(T.own _ m0).2
   . exact(T.own _ m3).2
   . exact(T.own _ m2).2
   . exact(T.own _ m1).2
 . exact⟨⟨_,om,fun v=>rfl⟩,⟨_,om,fun v h=>by cases h⟩,⟨_,om,fun v=>(if_neg (by simp [iT])).symm⟩⟩
 . intro c d;rcases List.mem_append.1 d with d|d
   . simp only [Sx.L,keys,Xm,Xt,Xo,Xh,Xw,Xr,or_false]at d;rcases d with rfl|rfl|rfl|rfl<;>omega
   . have:=u c d;omega
 . simp only [Sx.L,keys,Xm,Xt,Xo,Xh,XV,Xw,Xr,or_false,not_or,List.nodup_nil,and_true,not_false_eq_true];obtain⟨⟨a1,a2,a3,a4⟩,⟨b1,b2,b3⟩,⟨c1,c2⟩,_⟩:=J;exact⟨⟨a3,a2,a1⟩,⟨fun e=>c1 e.symm,fun e=>b2 e.symm⟩,fun e=>b1 e.symm⟩
 . intro c d k;have:=lF c d;simp only [Sx.L,keys,Xm,Xt,Xo,Xh,Xw,Xr,or_false]at k;rcases k with rfl|rfl|rfl|rfl<;>omega
inductive NxtL(nx:Nat->Option (Nat×Nat)):Nat->List Nat->Prop where
 |nil {v:Nat}:nx v=none->NxtL nx v []
 |cons {v x w:Nat} {l:List Nat}:nx v=some (x,w)->NxtL nx w l->NxtL nx v (x::l)
def nxV:Option (Nat×Nat)->Value
 |none=>.tuple #[.int .i64 0,.int .i64 0,.bool false]|some (x,w)=>.tuple #[.int .i64 (x:Nat),.int .i64 (w:Nat),.bool true]
theorem chain_ok(L:OZ h0){nx:Nat->Option (Nat×Nat)}(E: ∀h,Gr h0 h-> ∀v,D v->Ret zM g ([.int .i64 (v:Nat)]++post.toList) h fun r h'=>Gr h h'/\r=nxV (nx v))(M: ∀v x w,D v->nx v=some (x,w)->D w){l:List Nat}(i:D v)(p:NxtL nx v l)(F:l.length<=1000):Ret zM 211 [.int .i64 (v:Nat),.func (.func g) #[] post] h0 fun r h'=>Gr h0 h'/\ij h' (r,1,l.flatMap bM)/\ ∀c,ar r c->h0.n<=c:=by
 have S:=Si L;refine erA (n:=28) (rs:=[.tmp 4]) e211 ?_;simp only [BZ,seval];refine step_ret (E _ S.gr v i) ?_;rintro r Z ⟨N,rfl⟩;replace S:=S.call N;have q: ∀(o:Option (Nat×Nat)),∃x w b,nxV o=.tuple #[.int .i64 x,.int .i64 w,.bool b]:=fun o=>by
  rcases o with _|⟨x,w⟩
  . exact⟨_,_,_,rfl⟩
  . exact⟨_,_,_,rfl⟩
 obtain⟨O,P,Q,A⟩:=q (nx v);simp only [BZ,A,seval];replace S:=S.nilG (k:=1);refine aX (fun(a:List Nat) f h=> ∃done v x w b B,l=done++a/\D v/\NxtL nx v a/\nxV (nx v)=.tuple #[.int .i64 x,.int .i64 w,.bool b]/\St NoM h0 h [] [(B,1,fg done)]/\f 1=.func (.func g) #[] post/\f 4=B/\f 5=.int .i64 x/\f 6=.int .i64 w/\f 7=.bool b) (fun a=>a.length) ?_ l _ _ ?_
 . clear S p i A;intro a R f h ⟨done,v,x,w,b,B,t,i,p,e,S,r1,r4,r5,r6,r7⟩;cases p with
   | nil z=>
     rw [z]at e;simp only [nxV,Value.tuple.injEq,Array.mk.injEq,List.cons.injEq,Value.bool.injEq,Value.int.injEq]at e;obtain⟨⟨_,rfl⟩,⟨_,rfl⟩,rfl,_⟩:=e;simp only [BZ,aa,r4,r7,seval];rw [Xh]at t;subst t;refine⟨S.gr,(S.gown _ m0).1,fun c T=>?_⟩;exact((S.gown _ m0).2 c (mE (S.gown _ m0).1 T)).elim (fun h=>h) (fun h=>h.elim)
   | @cons _ y u d z U=>
     rw [z]at e;simp only [nxV,Value.tuple.injEq,Array.mk.injEq,List.cons.injEq,Value.bool.injEq,Value.int.injEq]at e;obtain⟨⟨_,rfl⟩,⟨_,rfl⟩,rfl,_⟩:=e;have G:done.length+(d.length+1)<=1000:=(by rw [t]at F;simpa using F);have H:=M _ _ _ i z;simp only [BZ,r4,r5,r7,seval];refine ab (bZ (by exact t41.1) (by exact XI) (by decide) (by rfl)) S ?_;clear S;intro h I S J;simp only [LC,bJ,cd,ac,XJ,Xs,XE,XO,seval]at S;simp only [BZ,seval];have s:aR h 1 (.slice (some ⟨I,0,none⟩) 1 1)=some (1,fg [y]):=(by simp only [aR];rw [S.lds (b:=I) (o:=0) (n:=1*1) m0 (lbt rfl)];rfl);replace S:=S.drop1;refine dT (S.grow (j:=0) (m:=1) (new:=fg [y]) rfl t41.1 XI (by decide) t41.2.2.2.2.2 s rfl (by decide) rfl (by rw [oa,oa];simp;omega)) ?_;clear S s;rintro h C S;simp only [LC,<-Cq]at S;simp only [BZ,r1,r6,seval];refine step_ret (E _ S.gr u H) ?_;rintro r h2 ⟨V,rfl⟩;replace S:=S.call V;obtain⟨W,X,Y,K⟩:=q (nx u);simp only [BZ,K,seval];exact R d _ _ (by simp) ⟨done++[y],u,W,X,Y,C,by rw [t];simp,H,U,K,S,by simp [aB,r1]⟩
 . exact⟨[],v,O,P,Q,.slice none 0 0,rfl,i,p,A,S,by simp [aB,cL]⟩
theorem head1_ok(d:OZ h0){a:Arc}:aQ zM 130 [.agg ⟨cQ a⟩] h0 (.int .i64 (a.t:Nat)):=by have S:=Si d;refine erA (n:=5) (rs:=[.tmp 2]) e130 ?_;simp only [BZ,cQ,seval];refine ab (aW (by intro x e;cases e)) S ?_;clear S;intro h f S c;simp only [ac]at S;simp only [BZ,aa,S.ld (b:=f) (o:=1) m0 rfl,seval];exact S.gr
theorem head2_ok(d:OZ h0){a:Arc}:aQ zM 132 [.agg ⟨cQ a⟩] h0 (.int .i64 (a.s:Nat)):=by have S:=Si d;refine erA (n:=5) (rs:=[.tmp 2]) e132 ?_;simp only [BZ,cQ,seval];refine ab (aW (by intro x e;cases e)) S ?_;clear S;intro h f S c;simp only [ac]at S;simp only [BZ,aa,S.ld (b:=f) (o:=0) m0 rfl,seval];exact S.gr
def nxB(A:List Arc)(i:Bool)(P:Nat->List Nat)(v:Nat):Option (Nat×Nat):=match P v with
 | []=>none|a::_=>some (a,fsB i (A.getD a default))
def nG(i:Bool):FuncId:=if i then 132 else 130
theorem C0(b:OZ h0){a:Arc}:aQ zM (nG i) [.agg ⟨cQ a⟩] h0 (.int .i64 (ftB i a:Nat)):=by
 cases i
 . exact head1_ok b
 . exact head2_ok b
structure BkAt(h:Hp)(br:Nat)(pn:Value)(m:Nat)(i:Bool)(x:Sx)(s:Sd):Prop where
 l0:h.load br 0 1=some [pn]
 l10:h.load br 10 1=some [.int .i64 (m:Nat)]
 row:Row h x.b (x.row i) 1
 map:h.get x.ma=some (.map x.ea x.ca)
 ok:x.Ok s
theorem BkAt.gr{h h':Hp}{br:Nat}{pn:Value}{m:Nat}{i:Bool}{x:Sx}{s:Sd}(a:BkAt h br pn m i x s)(g:Gr h h'):BkAt h' br pn m i x s:=⟨g.load a.l0,g.load a.l10,a.row.gr g,g.at a.map,a.ok⟩
theorem fD.bk(a:fD h br pn s t vPi X F vE N σ)(i:Bool):BkAt h br pn σ.meet i (X i) (σ.sd i):=by
 obtain⟨R,b⟩:=a.rows;refine⟨R.load1 (o:=0) rfl,R.load1 (o:=10) rfl,b i,?_,a.ok i⟩;have c:Has h (X i).ma (.map (X i).ea (X i).ca):=by
  cases i
  . exact a.own ((X false).ma,.map _ _) (by simp [boL,Sx.L])
  . exact a.own ((X true).ma,.map _ _) (by simp [boL,Sx.L])
 exact c
theorem back1_ok(t:OZ h0){F L:Nat}{x:Sx}{sd:Sd}{d:Gra}(M:aP h0 L (ptrTo F) d)(f:Good d)(a:BkAt h0 br (ptrTo F) m i x sd)(N:x.vH=.func (.func (nG i)) #[] #[]){u:Nat}(O:h0.load b2 0 1=some [ptrTo br])(k:h0.load u 0 1=some [ptrTo x.b])(P:(sd.L v).isSome=true)(Q: ∀e∈sd.P v,e<d.arcs.length):Ret zM 212 ([.int .i64 (v:Nat)]++[ptrTo u,ptrTo b2]) h0 fun r h'=>Gr h0 h'/\r=nxV (nxB d.arcs i sd.P v):=by
 have S:=Si t;have n2:=f.n2;obtain⟨ga,R,w⟩:=a.ok.ma;have A:=a.l0;have G:=a.row.load1 (o:=6) rfl;have B:=a.row.load1 (o:=4) rfl;rw [N]at B;have T:=a.map;have c:=lJ (x:=(v:Int)) t230.1 Tryz.t3.1 (z:=.int .i64 0) (by kernel_rfl) T R;rw [w v P,Xx]at c;refine erA (n:=40) (rs:=[.tmp 4,.tmp 5,.tmp 6]) e212 ?_;cases g:sd.P v with
 | nil=>rw [g]at c;replace c:cM _ h0 _ _ _ _=some (.int .i64 (-1)):=c;simp only [BZ,aa,k,G,c,seval];exact⟨S.gr,by unfold nxB;rw [g];rfl⟩| cons e l=>
   rw [g]at c;replace c:cM _ h0 _ _ _ _=some (.int .i64 (e:Nat)):=c;have C:=Q e (by rw [g];simp);have U: ¬((e:Int)<0):=(by omega);simp only [BZ,k,G,c,U,O,A,seval];refine step_ret (jb S.ok M C) ?_;rintro r h1 ⟨V,rfl⟩;replace S:=S.call V;obtain⟨W,X,Y⟩:=f.arcs _ (XC C);have j:d.arcs.getD e default=d.arcs[e]:=(by simp [Xl,C]);generalize d.arcs[e]=y at W X Y j;simp only [BZ,cQ,seval];refine ab au S ?_;clear S;intro h p S H;simp only [BZ,seval];refine az (stA S (i:=0) t96.2.1) ?_;clear S;rintro h ⟨S,Z⟩;clear Z;simp only [LC,ac,lay,Xc,Xd,seval]at S;have D:=S.old k (fun h=>h);have E:=S.old B (fun h=>h);have z3:=aV t k;have z4:=aV t B;have w1:am .i64 ((y.s:Int)+(y.t:Int))=(y.s:Int)+(y.t:Int):=(by rw [wrap64]<;>omega);have w2:am .i64 ((y.s:Int)+(y.t:Int)-(ftB i y:Int))=((fsB i y:Nat):Int):=(by cases i<;>simp only [ftB,fsB,if_true,if_false,XB]<;>rw [wrap64]<;>omega);simp only [BZ,seval];refine ao (av rfl) (q:=0) (ps:=[(4,11),(2,11)]) (by kernel_rfl) ?_;simp only [BZ,cls,D,E,w1,S.ld (b:=p) (o:=0) m0 rfl,S.ld (b:=p) (o:=1) m0 rfl,S.lds (b:=p) (o:=0) (n:=3) m0 (lbt rfl),seval];have k8:=(S.row (b:=p) m0).lt S.ok;have n0:=S.gr.n;refine bj (C0 (a:=y) S.ok) ?_;intro h9 s;have I:=ag s (show u<_ by omega);have J:=ag s (show x.b<_ by omega);have K:=ag s k8;replace S:=S.call s;simp only [BZ,cls,aa,w2,seval];refine⟨by simp only [aI,aO,aF,aK,aH,ne_eq,not_false_eq_true,aU,aY,aN,aJ,bw,bN,aD,Xa,ah,an I,aq I,an J,aq J,an K,aq K,seval],?_⟩;refine⟨S.gr,?_⟩;unfold nxB;rw [g];simp only [j];rfl
theorem back_ok(C:OZ h0){E:Nat}{x:Sx}{sd:Sd}{d:Gra}(F:aP h0 E (ptrTo t) d)(k:Good d)(a:BkAt h0 br (ptrTo t) m i x sd)(G:x.vH=.func (.func (nG i)) #[] #[])(f: ∀v,D v->(sd.L v).isSome=true/\ ∀e∈sd.P v,e<d.arcs.length)(l: ∀v y w,D v->nxB d.arcs i sd.P v=some (y,w)->D w)(H:D m)(p:NxtL (nxB d.arcs i sd.P) m (sd.P m))(I:(sd.P m).length<=1000):Ret zM 136 [ptrTo br,ptrTo x.b] h0 fun r h'=>Gr h0 h'/\ij h' (r,1,(sd.P m).flatMap bM)/\ ∀c,ar r c->h0.n<=c:=by
 have S:=Si C;have q:=a.l10;refine erA (n:=11) (rs:=[.tmp 4]) e136 ?_;simp only [BZ,seval];refine ab (bz (by exact bA)) S ?_;clear S;intro h s S u;simp only [BZ,if_false,seval];refine ab (bz (by exact bA)) S ?_;clear S;intro h z S A;have j:=S.old q (fun h=>h);simp only [BZ,j,S.ld (b:=s) (o:=0) m1 rfl,seval];have J:=S.gr.n;have K:=S.ld (b:=s) (o:=0) m1 rfl;have L:=S.ld (b:=z) (o:=0) m0 rfl;refine step_ret (chain_ok S.ok (g:=212) (post:=#[ptrTo z,ptrTo s]) (nx:=nxB d.arcs i sd.P) (D:=D) (fun h' g v B=>back1_ok g.ok (F.gr (S.gr.trans g)) k (a.gr (S.gr.trans g)) G (g.load K) (g.load L) (f v B).1 (f v B).2) l H p I) ?_;rintro r Q ⟨M,N,O⟩;simp only [BZ,aa,seval];exact⟨S.gr.trans M,N,fun c P=>Xj J (O c P)⟩
section
variable{A:List Arc}{N:Nat}{al:Nat->Bool}{pi:Nat->Int}{σ:Bi}{rt:Bool->Nat}
structure KeB(b:Bool)(σ τ:Bi):Prop where
 O:(τ.sd b).O=(σ.sd b).O
 L: ∀v∈(σ.sd b).O,(τ.sd b).L v=(σ.sd b).L v/\(τ.sd b).P v=(σ.sd b).P v
 ot:τ.sd (!b)=σ.sd (!b)
theorem KeB.refl{b:Bool}:KeB b σ σ:=⟨rfl,fun _ _=>⟨rfl,rfl⟩,rfl⟩
theorem KeB.trans{b:Bool}{τ c:Bi}(h:KeB b σ τ)(g:KeB b τ c):KeB b σ c:=
 ⟨g.O.trans h.O,fun v a=>⟨(g.L v (h.O▸a)).1.trans (h.L v a).1,(g.L v (h.O▸a)).2.trans (h.L v a).2⟩,g.ot.trans h.ot⟩
theorem uS{b:Bool}{p:List Nat}:KeB b σ (du pi b σ v lab p):=by
 unfold du
 split
 . exact .refl
 . rename_i a;simp only [not_or,Decidable.not_not]at a;refine⟨?_,fun u c=>?_,?_⟩
   . rw [rD.1];show(dK σ.sd b _ b).O=_;rw [fj];rfl
   . rw [rD.1];show(dK σ.sd b _ b).L u=_/\(dK σ.sd b _ b).P u=_;rw [fj];have e:u≠v:=fun e=>a.1 (e▸c);exact⟨if_neg e,if_neg e⟩
   . rw [rD.1];exact nQ
theorem evB_I(h:BiI A N rt al pi σ):BiI A N rt al pi (evB σ e):=⟨h.sv,h.dm,h.le⟩
def tS(σ:Bi)(b:Bool)(v m:Nat):Prop:=v∈(σ.sd b).O/\(σ.sd b).L v=some m/\m+cg<=(σ.sd b).O.length*cg/\((σ.sd b).P v).length+1<=(σ.sd b).O.length
theorem tS.ke{b:Bool}(r:tS σ b v m)(k:KeB b σ τ):tS τ b v m:=by obtain⟨a,c,d,e⟩:=r;exact⟨by rw [k.O];exact a,by rw [(k.L v a).1];exact c,by rw [k.O];exact d,by rw [k.O,(k.L v a).2];exact e⟩
theorem Dl{b:Bool}(j:N<=12)(k: ∀a∈A,a.s<N/\a.t<N/\a.w<=cg)(h:BiI A N rt al pi σ)(r:tS σ b v m)(l:a<A.length)(d:fsB b (A.getD a default)=v):BiI A N rt al pi (eo A al pi b v σ a)/\KeB b σ (eo A al pi b v σ a):=by
 unfold eo
 split
 . rename_i e;obtain⟨n,i,s,o⟩:=r;have q:A.getD a default∈A:=(by grind);obtain⟨t,u,w⟩:=k _ q;have c:labB σ b v=m:=(by unfold labB;rw [i];rfl);have f:ftB b (A.getD a default)<N:=(by unfold ftB;grind);have g:=uS (pi:=pi) (σ:=evB σ ⟨1,b,a,0⟩) (b:=b) (v:=ftB b (A.getD a default)) (lab:=labB σ b v+(A.getD a default).w) (p:=a::(σ.sd b).P v);refine⟨(evB_I h).reach j f ?_ ?_ (.inr ⟨a,m,l,e,rfl,?_,?_,?_,?_⟩),⟨g.O,g.L,g.ot⟩⟩
   . show labB σ b v+_<=(σ.sd b).O.length*cg;omega
   . show((σ.sd b).P v).length+1<=(σ.sd b).O.length;exact o
   . rw [d];exact n
   . rw [d];rfl
   . rw [d];exact i
   . rw [c]
 . exact⟨h,.refl⟩
theorem CM{b:Bool}{v m:Nat}(d:N<=12)(e: ∀a∈A,a.s<N/\a.t<N/\a.w<=cg): ∀(l:List Nat) {σ:Bi},BiI A N rt al pi σ->tS σ b v m->(∀a∈l,a<A.length/\fsB b (A.getD a default)=v)->
 BiI A N rt al pi (l.foldl (eo A al pi b v) σ)/\KeB b σ (l.foldl (eo A al pi b v) σ)
 | [],_,h,_,_=>⟨h,.refl⟩| a::l,σ,h,r,c=>by obtain⟨g,f⟩:=Dl d e h r (c a XG).1 (c a XG).2;obtain⟨i,j⟩:=CM d e l g (r.ke f) (fun x k=>c x (XM _ k));exact⟨i,f.trans j⟩
theorem Dg{b:Bool}{k:Int}(h:BiI A N rt al pi σ)(z:(σ.sd b).K v=some k):BiI A N rt al pi (cG σ b v)/\ ∃m,tS (cG σ b v) b v m/\(σ.sd b).L v=some m/\k=2*(m:Int)+qB pi b v/\v∉(σ.sd b).O:=by
 have c:=h.sv b;obtain⟨B,m,w,o⟩:=c.op v k z;obtain⟨L,M,O,P,Q⟩:=c.lab v m w;have p: ∀i u,((cG σ b v).sd i).L u=(σ.sd i).L u:=fun i u=>by
  show(dK σ.sd b _ i).L u=_;by_cases e:i=b
  . subst e;rw [fj]
  . rw [Aw e]
 refine⟨⟨fun i=>?_,?_,fun i u x y f q=>?_⟩,m,⟨?_,by grind,?_,?_⟩,w,o,B⟩
 . show SvB A N (rt i) al pi i (dK σ.sd b _ i);by_cases e:i=b
   . subst e;rw [fj];have C:((σ.sd i).O++[v]).length*cg=(σ.sd i).O.length*cg+cg:=(by grind);refine⟨?_,fun u g=>?_,fun u j n=>?_,fun u l r=>?_,fun u l r=>?_⟩
     . rw [List.nodup_append];exact⟨c.nd,by simp,fun x f y q e=>by grind⟩
     . rcases List.mem_append.1 g with g|g
       . exact c.lt u g
       grind
     . by_cases e:u=v
       . subst e;simp [dw]at n
       . have n:(σ.sd i).K u=some j:=(by simpa [dw,e]using n);obtain⟨s,t⟩:=c.op u j n;grind
     . obtain⟨s,t,D,E,F⟩:=c.lab u l r;refine⟨s,t,by show l<=((σ.sd i).O++[v]).length*cg;omega,by grind,?_⟩;grind[Xq,List.mem_singleton,Xf,dw]
     . rcases c.path u l r with G|⟨a,j,s,t,D,E,F⟩
       . exact .inl G
       grind
   . rw [Aw e];exact h.sv i
 . rcases h.dm with⟨H,R⟩|d
   . exact .inl ⟨H,fun i u x f=>by grind⟩
   . exact .inr fun i=>by obtain⟨x,y,I,J,K⟩:=d i;exact⟨x,y,by rw [p];exact I,by rw [p];exact J,K⟩
 . rw [p]at f q;exact h.le i u x y f q
 . show v∈(dK σ.sd b _ b).O;rw [fj];grind
 . show m+cg<=(dK σ.sd b _ b).O.length*cg;grind[fj,cg,XF,XY,Nat.succ_mul]
 . show((dK σ.sd b _ b).P v).length+1<=(dK σ.sd b _ b).O.length;grind[fj,XF,XY]
theorem Bn{b:Bool}:a∈outs A (fsB b) A.length v↔a<A.length/\fsB b (A.getD a default)=v:=jU
theorem wU{b:Bool}{k:Int}(c:N<=12)(d: ∀a∈A,a.s<N/\a.t<N/\a.w<=cg)(h:BiI A N rt al pi σ)(e:(σ.sd b).K v=some k):BiI A N rt al pi (iz A al pi b v (cG σ b v))/\KeB b (cG σ b v) (iz A al pi b v (cG σ b v)):=by
 obtain⟨f,m,r,_⟩:=Dg h e;exact CM c d _ f r (fun a g=>Bn.1 g)
def InB(A:List Arc)(al:Nat->Bool)(pi:Nat->Int)(a:Nat):Prop:=al a=true/\OpB pi (A.getD a default).s/\OpB pi (A.getD a default).t
instance (a:Nat):Decidable (InB A al pi a):=by unfold InB;infer_instance
def hB(A:List Arc)(al:Nat->Bool)(pi:Nat->Int)(b:Bool):List Arc:=((Xk A.length).filter fun a=>decide (InB A al pi a)).map fun a=>⟨fsB b (A.getD a default),ftB b (A.getD a default),(A.getD a default).w⟩
end
section
variable{A:List Arc}{N:Nat}{al:Nat->Bool}{pi:Nat->Int}{σ:Bi}{rt:Bool->Nat}
theorem clo_b{b:Bool}:(cG σ b v).sd b=⟨dw (σ.sd b).K v none,(σ.sd b).L,(σ.sd b).P,(σ.sd b).O++[v]⟩:=fj
theorem clo_n{b:Bool}:(cG σ b v).sd (!b)=σ.sd (!b):=nQ
theorem ends_I(b:N<=12)(c: ∀a∈A,a.s<N/\a.t<N/\a.w<=cg)(d:j7 A al pi σ τ):BiI A N rt al pi σ->BiI A N rt al pi τ:=by
 induction d with
 |stop _=>exact fun h=>h
 |step _ e _ f=>exact fun h=>f (wU b c h e.1).1
end
def rtB(s t:Nat)(i:Bool):Nat:=if i then t else s
def qq(σ:Bi):List Nat:=((σ.sd false).P σ.meet).reverse++(σ.sd true).P σ.meet
section
variable{A:List Arc}{N s t:Nat}{al:Nat->Bool}{pi:Nat->Int}{σ:Bi}
theorem As:BiI A N (rtB s t) al pi ⟨fun _=>iT,[],FAR,0⟩:=
 ⟨fun i=>⟨.nil,fun v c=>(by cases c),fun v k d=>(by cases d),fun v l a=>(by cases a),fun v l a=>(by cases a)⟩,.inl ⟨rfl,fun i v x b=>rfl⟩,fun i v x y b=>(by cases b)⟩
theorem wX(a:N<=12)(c:s<N)(d:t<N):BiI A N (rtB s t) al pi (kU pi s t):=
 (As.reach (b:=false) (p:=[]) (lab:=0) a c (Xe _) (Xe _) (.inl ⟨rfl,rfl,rfl⟩)).reach (b:=true) (p:=[]) (lab:=0) a d (Xe _) (Xe _) (.inl ⟨rfl,rfl,rfl⟩)
theorem initB_O(i:Bool):((kU pi s t).sd i).O=[]:=by
 have a:=uS (pi:=pi) (σ:=⟨fun _=>iT,[],FAR,0⟩) (b:=false) (v:=s) (lab:=0) (p:=[]);have c:=uS (pi:=pi) (σ:=du pi false ⟨fun _=>iT,[],FAR,0⟩ s 0 []) (b:=true) (v:=t) (lab:=0) (p:=[]);cases i
 . have:=c.ot;show((du pi true _ t 0 []).sd (!true)).O=[];rw [this];exact a.O
 . exact c.O.trans (by rw [show(true:Bool)=(!false)from rfl,a.ot];rfl)
theorem xQ:(kU pi s t).ev=[]:=by grind[du,rD,kU]
theorem SvB.pathF(h:SvB A N s al pi false x): ∀(n:Nat) {v l:Nat},(x.P v).length<=n->x.L v=some l->jB A s (x.P v).reverse v l:=by
 intro n
 induction n with
 | zero=>
   intro v l c b;rcases h.path v l b with⟨rfl,d,rfl⟩|⟨a,m,_,_,_,_,e,_⟩
   . rw [d];exact .nil
   grind
 | succ n f=>
   intro v l c b;rcases h.path v l b with⟨rfl,d,rfl⟩|⟨a,m,g,_,i,_,e,j,k⟩
   . grind
   . rw [e]at c⊢;rw [k,List.reverse_cons,<-i];exact .snoc (f (by grind) j) g
theorem SvB.pathT(h:SvB A N t al pi true x): ∀(n:Nat) {v l w:Nat} {b:List Nat},(x.P v).length<=n->x.L v=some l->jB A s b v w->jB A s (b++x.P v) t (w+l):=by
 intro n
 induction n with
 | zero=>
   intro v l w b e c f;rcases h.path v l c with⟨rfl,i,rfl⟩|⟨a,m,_,_,_,_,g,_⟩
   . grind
   grind
 | succ n j=>
   intro v l w b e c f;rcases h.path v l c with⟨rfl,i,rfl⟩|⟨a,m,k,_,d,_,g,o,p⟩
   . grind
   . rw [g]at e⊢;have d:(A.getD a default).s=v:=d;have:=j (by grind) o (.snoc (by rw [d];exact f) k);grind
theorem EP(h:BiI A N (rtB s t) al pi σ)(g:σ.dist<FAR):jB A s (qq σ) t σ.dist/\(qq σ).length<=2*N:=by
 rcases h.dm with⟨d,_⟩|d
 . omega
 . obtain⟨x,y,a,b,c⟩:=d false;have e:=(show SvB A N s al pi false (σ.sd false)from h.sv false).pathF _ (Xz _) a;have f:=(show SvB A N t al pi true (σ.sd true)from h.sv true).pathT _ (Xz _) b e;rw [c];refine⟨f,?_⟩;have i:=((h.sv false).lab _ _ a).2.2.2.1;have j:=((h.sv true).lab _ _ b).2.2.2.1;have k:=(h.sv false).len;have l:=(h.sv true).len;unfold qq;grind
theorem uZ{b:Bool}{p:List Nat}:(du pi b σ v lab p).ev=σ.ev:=by grind[du,rD]
end
theorem BiI.distLe(h:BiI A N rt al pi σ)(a:N<=12):σ.dist<=FAR:=by
 have f:=hU;have g:=kK;rcases h.dm with⟨e,_⟩|b
 . omega
 . obtain⟨x,y,c,d,i⟩:=b false;have j:=((h.sv false).lab _ x c).2.2.1;have k:=((h.sv (!false)).lab _ y d).2.2.1;have l:=XH cg (Xj (h.sv false).len a);have m:=XH cg (Xj (h.sv (!false)).len a);omega
theorem SvB.has(h:SvB A N r al pi i x){l:Nat}(a:x.L v=some l)(c:v∉x.O):x.K v=some (2*(l:Int)+qB pi i v):=by
 have d:=((h.lab v l a).2.2.2.2).resolve_left c;cases b:x.K v with
 |none=>exact absurd b d| some k=>
   obtain⟨_,g,e,f⟩:=h.op v k b;rw [a]at e;cases e;rw [f]
theorem SvB.hasNo(h:SvB A N r al pi i x)(a:x.L v=none):x.K v=none:=by
 cases b:x.K v with
 |none=>rfl| some k=>
   obtain⟨_,c,e,d⟩:=h.op v k b;rw [a]at e;cases e
theorem tI(f:OZ h0)(a:fD h0 br pn s t vPi X F vE N σ)(g:aw h0 1 (encI .i64) vPi pis)(k:pis.length=N\/pis=[]/\vPi=.slice none 0 0)(m: ∀c,ar vPi c->c∉boB br pn s t vPi X F vE σ)(d:N<=12)(I:BiI A N rt al (fun v=>pis.getD v 0) σ){p:List Nat}(n:v<N)(e:lab<=13*cg):Ret zM 133 [ptrTo br,ptrTo (X i).b,.int .i64 (v:Nat),.int .i64 (byI p),.int .i64 (lab:Nat)] h0 fun _ h'=>Mo (· ∈boB br pn s t vPi X F vE σ) h0 h'/\ ∃b F',fD h' br pn s t vPi b F' vE N (du (fun v=>pis.getD v 0) i σ v lab p)/\(∀j,(b j).b=(X j).b/\(b j).vA=(X j).vA/\(b j).vH=(X j).vH)/\ ∀c∈boB br pn s t vPi b F' vE (du (fun v=>pis.getD v 0) i σ v lab p),c∈boB br pn s t vPi X F vE σ\/h0.n<=c:=
 breach_ok f a g k m d n e (I.distLe d) (fun j u l o=>by
  have r:=((I.sv j).lab u l o).2.2.1;have w:=XH cg (Xj (I.sv j).len d);have x:=kK;omega) (fun l e q=>(I.sv i).has e q) (fun h=>(I.sv i).hasNo h)
theorem note_look{b a:Bool}{t:TypeId}{m k:Operand}:cH ρ b (.lookup t m k a) h h'=(match ρ m with| .map (some r)=>some (.blk r)|_=>none):=by simp only [cH,dJ,jo,eR,touch,cond_false];cases ρ m<;>first|rfl|(rename_i x;cases x<;>rfl)
theorem yC{A:List Arc}{al:Nat->Bool}{pi:Nat->Int}{b:Bool}{v:Nat}: ∀(l:List Nat) {σ:Bi},(l.foldl (eo A al pi b v) σ).ev.length<=σ.ev.length+l.length
 | [],_=>Xz _| a::l,σ=>by
   have h:=yC (A:=A) (al:=al) (pi:=pi) (b:=b) (v:=v) l (σ:=eo A al pi b v σ a);have c:(eo A al pi b v σ a).ev.length<=σ.ev.length+1:=by
    unfold eo
    split
    . rw [uZ];simp [evB]
    . omega
   rw [Yd,XP];omega
theorem sj: ∀e:Ev2,(dz e).length=4:=fun _=>rfl
def outF(i:Bool):FuncId:=if i then 131 else 129
theorem outF_ok(d:OZ h0){a:Gra}{f:Nat}(c:aP h0 f p a)(b:a.arcs.length<1000)(e:v<a.nodes):Ret zM (outF i) [p,.int .i64 v] h0 fun r h'=>Gr h0 h'/\aw h' 1 bM r (outs a.arcs (fsB i) a.arcs.length v)/\ ∀c,ar r c->h0.n<=c:=by
 cases i
 . exact vU d c b e
 . exact xV d c b e
theorem fD.lt{h:Hp}(b:OZ h){br:Nat}{pn:Value}{s t:Nat}{vPi:Value}{X:Bool->Sx}{F:Bool->List Nat}{vE:Value}{N:Nat}{σ:Bi}(a:fD h br pn s t vPi X F vE N σ): ∀c∈boB br pn s t vPi X F vE σ,c<h.n:=fun c d=>
 (List.mem_append.1 d).elim (fun h=>(a.st b false).key_lt h) (fun h=>(List.mem_append.1 h).elim (fun h=>(a.heap false).lt b c h) (fun h=>(a.heap true).lt b c h))
theorem bo_fin(a:fD h0 br pn s t vPi X F vE N σ){x2:Sx}(e:x2.b=(X i).b/\x2.vA=(X i).vA/\x2.vH=(X i).vH){y:Sd}(k:τ.sd=dK σ.sd i y){vE2:Value}{F6:List Nat}(S:St (· ∈boB br pn s t vPi X F vE σ) h0 h' ((br,.row (ik pn s t vPi X vE2 τ) 1)::(x2.L i++(X (!i)).L (!i))) (boG vE2 τ))(z:cF h' F6 (ptrTo x2.p) N y.K)(v:cF h' (F (!i)) (ptrTo (X (!i)).p) N (σ.sd (!i)).K)(w:x2.Ok y)(x: ∀c∈F6,c∈F i\/h0.n<=c)(l: ∀c∈F6,c∉keys ((br,Ob.row (ik pn s t vPi X vE2 τ) 1)::(x2.L i++(X (!i)).L (!i))) (boG vE2 τ)/\c∉F (!i))(n: ∀c∈F (!i),c∉keys ((br,Ob.row (ik pn s t vPi X vE2 τ) 1)::(x2.L i++(X (!i)).L (!i))) (boG vE2 τ)):
 ∃f F',fD h' br pn s t vPi f F' vE2 N τ/\(∀j,(f j).b=(X j).b/\(f j).vA=(X j).vA/\(f j).vH=(X j).vH)/\ ∀c∈boB br pn s t vPi f F' vE2 τ,c∈boB br pn s t vPi X F vE σ\/h0.n<=c:=by
 have g: ∀j:Bool,j≠i->j= !i:=fun j h=>pR h;have o:(!i)≠i:=not_ne
 let f:Bool->Sx:=fun j=>if j=i then x2 else X j
 let F':Bool->List Nat:=fun j=>if j=i then F6 else F j
 have p:f i=x2:=if_pos rfl;have q:f (!i)=X (!i):=if_neg o;have r:F' i=F6:=if_pos rfl;have u:F' (!i)=F (!i):=if_neg o;have m: ∀j,(f j).b=(X j).b/\(f j).vA=(X j).vA/\(f j).vH=(X j).vH:=fun j=>by
  by_cases d:j=i
  . subst d;rw [p];exact e
  . rw [g j d,q];exact⟨rfl,rfl,rfl⟩
 have A:boL i br pn s t vPi f vE2 τ=(br,.row (ik pn s t vPi X vE2 τ) 1)::(x2.L i++(X (!i)).L (!i)):=by simp only [boL,ik,p,q,(m false).1,(m true).1]
 rw [<-A]at S l n;refine⟨f,F',fD.of i S (fun j=>?_) (fun j=>?_) (fun j c b=>?_),m,fun c b=>?_⟩
 . by_cases d:j=i
   . subst d;rw [r,p,k,fj];exact z
   . rw [g j d,u,q,k,nQ];exact v
 . by_cases d:j=i
   . subst d;rw [p,k,fj];exact w
   . rw [g j d,q,k,nQ];exact a.ok _
 . by_cases d:j=i
   . subst d;rw [r]at b;rw [u];exact l c b
   . rw [g j d]at b⊢;rw [u]at b;rw [Ym,r];exact⟨n c b,fun B=>(l c B).2 b⟩
 . have hB: ∀j,∀c∈F' j,c∈boB br pn s t vPi X F vE σ\/h0.n<=c:=fun j c b=>by
    by_cases d:j=i
    . subst d;rw [r]at b;exact(x c b).elim (fun h=>.inl (rG h)) .inr
    . rw [g j d,u]at b;exact .inl (rG b)
   rcases List.mem_append.1 b with b|b
   . refine(S.key_own ?_).symm;unfold keys at b⊢;rcases List.mem_append.1 b with h|h
     . exact Xf _ (((pz i).map _).mem_iff.2 h)
     . exact Xq _ h
   . rcases List.mem_append.1 b with b|b
     . exact hB _ c b
     . exact hB _ c b
theorem bstep_ok(gq:Gr hq h0){B:Nat}{f:Gra}(E:Good f)(hn:aP hq nb (ptrTo B) f)(a:fD h0 br (ptrTo B) s t vPi X F vE f.nodes σ)(hB: ∀c∈boB br (ptrTo B) s t vPi X F vE σ,hq.n<=c)(sP:aw hq 1 (encI .i64) vPi pis)(lP:pis.length=f.nodes\/pis=[]/\vPi=.slice none 0 0)(I:BiI f.arcs f.nodes rt (fun _=>true) (fun v=>pis.getD v 0) σ)(cT:σ.ev.length<=100000){k:Int}(hp:og (σ.sd i).K v k)(hA:(X i).vA=.func (.func (outF i)) #[ptrTo B] #[])(hH:(X i).vH=.func (.func (nG i)) #[] #[]):Ret zM 135 [ptrTo br,ptrTo (X i).b] h0 fun _ h'=>Mo (· ∈boB br (ptrTo B) s t vPi X F vE σ) h0 h'/\ ∃X' F' C,fD h' br (ptrTo B) s t vPi X' F' C f.nodes (iz f.arcs (fun _=>true) (fun v=>pis.getD v 0) i v (cG σ i v))/\(∀j,(X' j).b=(X j).b/\(X' j).vA=(X j).vA/\(X' j).vH=(X j).vH)/\ ∀c∈boB br (ptrTo B) s t vPi X' F' C (iz f.arcs (fun _=>true) (fun v=>pis.getD v 0) i v (cG σ i v)),c∈boB br (ptrTo B) s t vPi X F vE σ\/h0.n<=c:=by
 have ok:=gq.ok;have n2:=E.n2;have S:=a.st ok i;have Ho:=a.ok i;have H:=a.heap i;have Hx:=a.heap (!i);have hk:=fun j c (d:c∈F j)=>a.apart' i d;have bc: ∀j,∀c∈F j,c∈boB br (ptrTo B) s t vPi X F vE σ\/h0.n<=c:=fun j c d=>.inl (rG d);generalize ax:boB br (ptrTo B) s t vPi X F vE σ=BB at S bc;rcases hX:X i with⟨xb,xp,xl,xa,xc,vA,vH,el,cl,ea,ca,ec,cc⟩;rcases hY:X (!i)with⟨yb,yp,yl,ya,yc,wA,wH,fl,dl,fa,da,fc,dc⟩;rw [hX]at Ho H hA hH;rw [hY]at Hx;obtain⟨gl,ML,bd⟩:=Ho.ml;obtain⟨gc,MC,be⟩:=Ho.mc;simp only []at ML MC hA hH;subst hA hH;simp only [LC,boL,boG,ik,Sx.L,Sx.row,hX,hY]at S hk;have cW:=fun c d=>S.key_lt (b:=c) d;obtain⟨b2,l,ay,cX⟩:=(I.sv i).op v k hp.1;have b3:=((I.sv i).lab v l ay).1;refine erA (n:=125) (rs:=[]) e135 ?_;simp only [BZ,S.ld (b:=xb) (o:=0) m1 rfl,seval];refine step_ret (ut S.ok H (by omega)) ?_;rintro rv h2 (⟨_,aL,_⟩|⟨v',k',rfl,b4,bf,f2,H2⟩)
 . exact absurd ((aL v).symm.trans hp.1) (by nofun)
 . obtain ⟨rfl,rfl⟩:=hp.uniq (⟨b4,bf⟩:og (σ.sd i).K v' k');replace S:=S.stepF f2 (fun c d=>⟨bc i c d,hk i c d⟩);have bh:=Hx.mo f2 (fun c d g=>(a.apart (!i) c d).2 (by rw [Ym];exact g));have S2:=S;have b5:=H2.lt S2.ok;have b6:=bh.lt S2.ok;replace S:=S.base;have bi:=lJ (x:=(v:Int)) t230.1 Tryz.t3.1 (z:=.int .i64 0) (by kernel_rfl) (show h2.get xc=some (.map ec cc)from(S.own _ m4).2) MC;rw [be,if_neg b2,XT]at bi;have w1:am .i64 ((0:Int)+1)=1:=rfl;simp only [BZ,bi,S.ld (b:=xb) (o:=7) m1 rfl,seval];refine az (S.mputI (i:=4) rfl t230.1 Tryz.t3.1 MC _) ?_;clear S;rintro h3 ⟨cY,b7,b8,cb,S⟩;simp only [LC]at S;have bk:=lJ (x:=(v:Int)) t272.1 Tryz.t3.1 (z:=.int .i64 0) (by kernel_rfl) (show h3.get xl=some (.map el cl)from(S.own _ m2).2) ML;rw [bd,ay,XU,Xx]at bk;have c1:Fl vE:=(S.gown _ m0).1.fl;simp only [BZ];refine ao (av rfl) (q:=262144) (ps:=[]) (by kernel_rfl) ?_;simp only [BZ,cls,bk,S.ld (b:=br) (o:=9) m0 rfl,S.ld (b:=xb) (o:=1) m1 rfl,S.ld (b:=xb) (o:=5) m1 rfl,seval];refine cV (bZ (by exact t44.1) (by exact Yy) (by decide) (by rfl)) S ?_;clear S;intro h bs S bl bm;simp only [LC,bJ,cd,ac,XJ,Xs,XE,XO,seval]at S;simp only [BZ,cls,seval];have J:aR h 4 (.slice (some ⟨bs,0,none⟩) 1 1)=some (1,dz ⟨0,i,v,l⟩):=(by simp only [aR];rw [S.lds (b:=bs) (o:=0) (n:=1*4) m0 (lbt rfl)];rfl);replace S:=S.drop1;refine lu (S.grow (j:=0) (m:=1) (new:=dz ⟨0,i,v,l⟩) rfl t44.1 Yy (by decide) t44.2.2.2.2.2 J rfl (by decide) rfl (by rw [cB sj];show(_+4)*_<=_;omega)) ?_;clear S J;rintro h4 C S;simp only [LC]at S;have bn:Fl C:=(S.gown _ m0).1.fl;simp only [BZ,cls,seval];refine cJ (aA S (i:=0) rfl t44.2.2.1 bn (Xb (lbt rfl)) ono) ?_;clear S;rintro h5 ⟨S,c2⟩;simp only [LC]at S;have T:=S2.rebase S;have K:labB σ i v=l:=(by unfold labB;rw [ay];rfl);have bo:=bo_fin a (i:=i) (x2:=⟨xb,xp,xl,xa,xc,.func (.func (outF i)) #[ptrTo B] #[],.func (.func (nG i)) #[] #[],el,cl,ea,ca,b7,b8⟩) (by rw [hX];exact⟨rfl,rfl,rfl⟩) (τ:=cG σ i v) (y:=⟨dw (σ.sd i).K v none,(σ.sd i).L,(σ.sd i).P,(σ.sd i).O++[v]⟩) rfl (vE2:=C) (F6:=F i) (h':=h5) (by
    rw [ax];simp only [ik,Sx.L,Sx.row,hY,XL,XX,boG,cG,K,XN,XS,X7,Xh];exact T) (H2.mo S.fr (fun c d=>hk i c d)) (by rw [hY];exact bh.mo S.fr (fun c d=>hk _ c d)) (⟨⟨gl,ML,bd⟩,Ho.ma,⟨_,cb,fun u=>by
    simp only [dY];by_cases hu:u=v
    . subst hu;simp;rfl
    . rw [if_neg (by omega),be u];simp [hu]⟩⟩) (fun c d=>.inl d) (fun c d=>⟨fun g=>by
    simp only [ik,Sx.L,Sx.row,hY,XL,XX,boG,cG,K,XN,XS,X7,Xh]at g;exact(S.key_own g).elim (fun h=>by have:=b5 c d;omega) (fun h=>hk i c d h),(a.apart i c d).2⟩) (fun c d g=>by
    simp only [ik,Sx.L,Sx.row,hY,XL,XX,boG,cG,K,XN,XS,X7,Xh]at g;exact(S.key_own g).elim (fun h=>by have:=b6 c d;omega) (fun h=>hk _ c d h))
   obtain⟨X2,F2,A2,e2,bq⟩:=bo;have a0: ∀c∈BB,hq.n<=c:=fun c d=>hB c (by rw [ax];exact d);have cf:Gr hq h5:=gq.mo' T.fr a0;obtain⟨I5,m5,R5,c3,_,_⟩:=Dg I hp.1;simp only [BZ,S.ld (b:=xb) (o:=3) m1 rfl,seval];refine step_ret (outF_ok (i:=i) S.ok (hn.gr cf) (by have:=E.many;omega) b3) ?_;rintro vL h6 ⟨g6,W,nL⟩;have f6:Mo (· ∈BB) h0 h6:=T.fr.trans (g6.fr (M:=NoM)) (fun _ h=>h.elim);have A6:=A2.gr g6;have n6:h5.n<=h6.n:=g6.n;have ch: ∀c∈boB br (ptrTo B) s t vPi X2 F2 C (cG σ i v),c<h5.n:=A2.lt S.ok;generalize hL:outs f.arcs (fsB i) f.arcs.length v=L at W;have cj: ∀e∈L,e<f.arcs.length/\fsB i (f.arcs.getD e default)=v:=fun e he=>(by rw [<-hL]at he;exact Bn.1 he);have c4:L.length<=f.arcs.length:=(by rw [<-hL];exact jQ _ _ _ _);have a4:iz f.arcs (fun _=>true) (fun v=>pis.getD v 0) i v (cG σ i v)=L.foldl (eo f.arcs (fun _=>true) (fun v=>pis.getD v 0) i v) (cG σ i v):=(by unfold iz;rw [hL]);rw [a4];have c5:(X2 i).b=xb:=(by rw [(e2 i).1,hX]);simp only [BZ,W.lenq,seval];refine aX (fun(j:Nat) ρ h=>j<=L.length/\ ∃N F3 G,fD h br (ptrTo B) s t vPi N F3 G f.nodes ((L.take j).foldl (eo f.arcs (fun _=>true) (fun v=>pis.getD v 0) i v) (cG σ i v))/\BiI f.arcs f.nodes rt (fun _=>true) (fun v=>pis.getD v 0) ((L.take j).foldl (eo f.arcs (fun _=>true) (fun v=>pis.getD v 0) i v) (cG σ i v))/\tS ((L.take j).foldl (eo f.arcs (fun _=>true) (fun v=>pis.getD v 0) i v) (cG σ i v)) i v m5/\(∀j,(N j).b=(X j).b/\(N j).vA=(X j).vA/\(N j).vH=(X j).vH)/\Mo (· ∈BB) h0 h/\(∀c∈boB br (ptrTo B) s t vPi N F3 G ((L.take j).foldl (eo f.arcs (fun _=>true) (fun v=>pis.getD v 0) i v) (cG σ i v)),(c∈BB\/h0.n<=c)/\ ¬ar vL c)/\aw h 1 bM vL L/\ρ 0=ptrTo br/\ρ 1=ptrTo xb/\ρ 4=.int .i64 (v:Nat)/\ρ 55=vL/\ρ 56=.int .i64 (L.length:Nat)/\ρ 57=.int .i64 j) (fun j=>L.length-j) ?_ 0 _ _ ?_
   . clear S A6 W;intro j ih ρ h ⟨hj,N,F3,G,A3,I3,R3,e3,f3,sub3,W,r0,r1,r4,r55,r56,r57⟩;have w:am .i64 ((j:Int)+1)=((j+1:Nat):Int):=(by have:=E.many;rw [wrap64]<;>omega);by_cases hlt:j<L.length
     . obtain⟨c0,o0,x0,y0⟩:=W.ix (kd:=.i64) dr hlt;obtain⟨O,ai⟩:=cj _ (XC hlt);have bt:L.take (j+1)=L.take j++[L[j]]:=Xy hlt;generalize L[j]=e at y0 O ai bt;replace y0:h.load c0 o0 1=some [.int .i64 (e:Nat)]:=y0;generalize bu:(L.take j).foldl (eo f.arcs (fun _=>true) (fun v=>pis.getD v 0) i v) (cG σ i v)=τ at A3 I3 R3 sub3;have P:=f3.ok;have S:=A3.st P i;have bv:=A3.ok i;have H3:=A3.heap i;have a5:=A3.heap (!i);have Q:=fun j c (d:c∈F3 j)=>A3.apart' i d;have Y:=e3 i;rw [hX]at Y;generalize R:boB br (ptrTo B) s t vPi N F3 G τ=c6 at S sub3;rcases hX3:N i with⟨U,c9,Z,db,dd,de,dj,a6,a7,dm,dn,dq,ds⟩;rcases hY3:N (!i)with⟨dt,dv,dx,dy,dF,dO,d0,d1,d2,d3,d4,d5,d7⟩;rw [hX3]at bv H3 Y;rw [hY3]at a5;simp only []at Y;obtain⟨rfl,rfl,rfl⟩:=Y;simp only [LC,boL,boG,ik,Sx.L,Sx.row,hX3,hY3]at S Q;simp only [BZ,zO,r0,r55,r56,r57,aE,hlt,x0,y0,S.ld (b:=br) (o:=3) m0 rfl,seval];have cz:Fl G:=(S.gown _ m0).1.fl;have S2:=S;have ck:=H3.lt P;have bx:=a5.lt P;replace S:=S.base;refine ao (av rfl) (q:=4096) (ps:=[]) (by kernel_rfl) ?_;simp only [BZ,cls,r0,r1,S.ld (b:=br) (o:=9) m0 rfl,S.ld (b:=U) (o:=1) m1 rfl,seval];refine cV (bZ (by exact t44.1) (by exact Yy) (by decide) (by rfl)) S ?_;clear S;intro h bs S bl bm;simp only [LC,bJ,cd,ac,XJ,Xs,XE,XO,seval]at S;simp only [BZ,cls,seval];have J:aR h 4 (.slice (some ⟨bs,0,none⟩) 1 1)=some (1,dz ⟨1,i,e,0⟩):=(by simp only [aR];rw [S.lds (b:=bs) (o:=0) (n:=1*4) m0 (lbt rfl)];rfl);replace S:=S.drop1;have cA:τ.ev.length<=1000000:=by have D:=yC (A:=f.arcs) (al:=fun _=>true) (pi:=fun v=>pis.getD v 0) (b:=i) (v:=v) (L.take j) (σ:=cG σ i v);rw [bu,X6]at D;have h2:(cG σ i v).ev.length=σ.ev.length+1:=(by simp [cG]);have:=E.many;omega
       refine lu (S.grow (j:=0) (m:=1) (new:=dz ⟨1,i,e,0⟩) rfl t44.1 Yy (by decide) t44.2.2.2.2.2 J rfl (by decide) rfl (by rw [cB sj];show(_+4)*_<=_;omega)) ?_;clear S J;rintro h8 V S;simp only [LC]at S;have bB:Fl V:=(S.gown _ m0).1.fl;simp only [BZ,cls,seval];refine cJ (aA S (i:=0) rfl t44.2.2.1 bB (Xb (lbt rfl)) ono) ?_;clear S;rintro h9 ⟨S,d8⟩;simp only [LC]at S;have T:=S2.rebase S;have cm:(evB τ ⟨1,i,e,0⟩).sd=dK τ.sd i (τ.sd i):=by
        funext j;unfold dK;by_cases hj:j=i
        . rw [if_pos hj,hj];rfl
        . rw [if_neg hj];rfl
       have bo:=bo_fin A3 (i:=i) (x2:=N i) ⟨rfl,rfl,rfl⟩ (τ:=evB τ ⟨1,i,e,0⟩) cm (vE2:=V) (F6:=F3 i) (h':=h9) (by
        rw [R];simp only [ik,Sx.L,Sx.row,hX3,hY3,XL,XX,boG,evB,XN,XS,X7,Xh];exact T) (by rw [hX3];exact H3.mo S.fr (fun c d=>Q i c d)) (by rw [hY3];exact a5.mo S.fr (fun c d=>Q _ c d)) (A3.ok i) (fun c d=>.inl d) (fun c d=>⟨fun g=>by
        simp only [ik,Sx.L,Sx.row,hX3,hY3,XL,XX,boG,evB,XN,XS,X7,Xh]at g;exact(S.key_own g).elim (fun h=>by have:=ck c d;omega) (fun h=>Q i c d h),(A3.apart i c d).2⟩) (fun c d g=>by
        simp only [ik,Sx.L,Sx.row,hX3,hY3,XL,XX,boG,evB,XN,XS,X7,Xh]at g;exact(S.key_own g).elim (fun h=>by have:=bx c d;omega) (fun h=>Q _ c d h))
       obtain⟨X4,F4,A4,e4,ak⟩:=bo;have f9:Mo (· ∈BB) h0 h9:=f3.trans T.fr (fun c d=>(sub3 c d).1);have bE:=gq.mo' f9 a0;have cn:(X4 i).b=U:=(by rw [(e4 i).1,hX3]);simp only [BZ,r0,S.ld (b:=br) (o:=0) m0 rfl,seval];refine step_ret (jb S.ok (hn.gr bE) O) ?_;rintro r hA ⟨gA,rfl⟩;have a8:=gA.ok;have bL:f.arcs.getD e default=f.arcs[e]:=(by simp [Xl,O]);obtain⟨a1,a2,a3⟩:=E.arcs _ (XC O);generalize f.arcs[e]=x at bL a1 a2 a3;have AA:=A4.gr gA;replace S:=S.call gA;have l4:=S.ld (b:=U) (o:=4) m1 rfl;have l5:=S.ld (b:=U) (o:=5) m1 rfl;have gx:=S.gown;have SA:=S;clear S;have S:=Si a8;simp only [BZ,cQ,seval];refine ab au S ?_;clear S;intro h b9 S cN;simp only [BZ,seval];refine az (stA S (i:=0) t96.2.1) ?_;clear S;rintro h ⟨S,mo⟩;clear mo;simp only [LC,ac,lay,Xc,Xd,seval]at S;have cp:=S.old l4 (fun h=>h);have eb:=S.old l5 (fun h=>h);simp only [BZ,seval];refine ao (av rfl) (q:=0) (ps:=[(7,16),(7,14),(7,12)]) (by kernel_rfl) ?_;simp only [BZ,cls,r0,r1,cp,S.lds (b:=b9) (o:=0) (n:=3) m0 (lbt rfl),seval];have k9:=(S.row (b:=b9) m0).lt S.ok;refine bj (C0 (a:=x) S.ok) ?_;intro cr ad;have z4:=aV a8 l4;have nA:=S.gr.n;have p1:=ag ad (show U<_ by omega);have p2:=ag ad k9;have p3:=ag ad (show Z<_ from Xu (iG a8 (show hA.get Z=some (.map a6 a7)from(SA.own _ m2).2)) nA);replace S:=S.call ad;have bP:=S.old l5 (fun h=>h);have bT:cr.get Z=some (.map a6 a7):=S.gr.at (show hA.get Z=some (.map a6 a7)from(SA.own _ m2).2);obtain⟨ed,cs,ba⟩:=bv.ml;have bX:=lJ (x:=(v:Int)) t272.1 Tryz.t3.1 (z:=.int .i64 0) (by kernel_rfl) bT cs;rw [ba v,R3.2.1,XU,Xx]at bX;have ee:=R3.2.2.1;have cO:=XH cg (Xj (I3.sv i).len n2);have ei:=kK;have bY:am .i64 ((m5:Int)+(x.w:Int))=((m5+x.w:Nat):Int):=(by rw [wrap64]<;>omega);simp only [BZ,cls,r1,r4,bP,bX,bY,S.ld (b:=b9) (o:=2) m0 rfl,seval];have ej:=f3.n;have ek:=gq.n;have bb: ∀c∈boB br (ptrTo B) s t vPi X4 F4 V (evB τ ⟨1,i,e,0⟩),hq.n<=c/\(c∈BB\/h0.n<=c):=fun c d=>by
        rcases ak c d with D|D
        . rw [R]at D;have h2:=(sub3 c D).1;exact⟨h2.elim (a0 c) (fun h=>by omega),h2⟩
        . exact⟨by omega,.inr (by omega)⟩
       have af:=gA.trans S.gr;have n9:=T.fr.n;have em:=af.n;have b0: ∀c∈boB br (ptrTo B) s t vPi X4 F4 V (evB τ ⟨1,i,e,0⟩),¬ar vL c:=fun c d hb=>by
        rcases ak c d with D|D
        . rw [R]at D;exact(sub3 c D).2 hb
        . have:=W.blt P hb;omega
       have cv:=bE.trans af;have cx:ftB i x<f.nodes:=(by unfold ftB;split<;>assumption);have rc:=tI S.ok (AA.gr S.gr) (sP.gr cv) lP (fun c d g=>by have D:=sP.blt gq.ok0 d;have h2:=(bb c g).1;omega) n2 (evB_I I3) (i:=i) (v:=ftB i x) (lab:=m5+x.w) (p:=e::(τ.sd i).P v) cx (by omega);rw [cn]at rc;refine bO rc ?_;rintro r hC ⟨fC,X5,F5,A5,e5,b1⟩;simp only [BZ,r57,w,seval];refine⟨by simp only [aI,aO,aF,aK,aH,ne_eq,not_false_eq_true,aU,aY,aN,aJ,bw,bN,aD,Xa,r0,r1,r4,r55,r56,r57,ah,note_look,an p1,aq p1,an p2,aq p2,an p3,aq p3,seval],?_⟩;have es:eo f.arcs (fun _=>true) (fun v=>pis.getD v 0) i v τ e=du (fun v=>pis.getD v 0) i (evB τ ⟨1,i,e,0⟩) (ftB i x) (m5+x.w) (e::(τ.sd i).P v):=(by have:labB τ i v=m5:=(by unfold labB;rw [R3.2.1];rfl);unfold eo;rw [if_pos rfl,bL,this]);have ef:(L.take (j+1)).foldl (eo f.arcs (fun _=>true) (fun v=>pis.getD v 0) i v) (cG σ i v)=eo f.arcs (fun _=>true) (fun v=>pis.getD v 0) i v τ e:=(by rw [bt,Yg,bu];rfl);obtain⟨I6,K6⟩:=Dl n2 (fun a ha=>E.arcs a ha) I3 R3 O ai;refine ih (j+1) _ _ (by omega) ⟨by omega,X5,F5,V,by rw [ef,es];exact A5,by rw [ef];exact I6,by rw [ef];exact R3.ke K6,fun q=>⟨(e5 q).1.trans ((e4 q).1.trans (e3 q).1),(e5 q).2.1.trans ((e4 q).2.1.trans (e3 q).2.1),(e5 q).2.2.trans ((e4 q).2.2.trans (e3 q).2.2)⟩,?_,?_,?_,by simp [aB,r0,ah,r1,r4,r55,r56]⟩
       . exact(f9.trans (af.fr (M:=NoM)) (fun _ h=>h.elim)).trans fC (fun c d=>(bb c d).2)
       . intro c d;rw [ef,es]at d;rcases b1 c d with D|D
         . exact⟨(bb c D).2,b0 c D⟩
         . refine⟨.inr (by omega),fun hb=>?_⟩;have:=W.blt P hb;omega
       . exact((W.mo T.fr (fun c d g=>(sub3 c g).2 d)).gr af).mo fC (fun c d g=>b0 c g d)
     . have:j=L.length:=(by omega);subst this;rw [XZ]at A3 sub3;simp only [BZ,r56,r57,aE,hlt,seval];exact⟨f3,N,F3,G,A3,e3,fun c d=>(sub3 c d).1⟩
   . exact⟨Xe _,X2,F2,C,A6,I5,R5,e2,f6,fun c d=>⟨by rw [<-ax];exact bq c d,fun hb=>by have D:=nL c hb;have h2:=ch c d;omega⟩,W,by simp [aB,cL,ah]⟩
section
variable{A:List Arc}{N r:Nat}{al:Nat->Bool}{pi:Nat->Int}{i:Bool}{x:Sd}
theorem SvB.ids(h:SvB A N r al pi i x): ∀(n:Nat) {v:Nat},(x.P v).length<=n->(x.L v).isSome=true-> ∀e∈x.P v,e<A.length:=by
 intro n
 induction n with
 | zero=>
   intro v c _ e b;rw [List.length_eq_zero_iff.1 (Nat.le_zero.1 c)]at b;cases b
 | succ n f=>
   intro v c d e b;obtain⟨l,d⟩:=Option.isSome_iff_exists.1 d;rcases h.path v l d with⟨_,g,_⟩|⟨a,m,j,_,_,_,k,o,_⟩
   . rw [g]at b;cases b
   . rw [k]at c b;rcases List.mem_cons.1 b with rfl|b
     . exact j
     . exact f (by rw [XP]at c;omega) (by rw [o];rfl) e b
end
section
variable{A:List Arc}{N r:Nat}{al:Nat->Bool}{pi:Nat->Int}{i:Bool}{x:Sd}
theorem SvB.nxt(h:SvB A N r al pi i x): ∀(n:Nat) {v:Nat},(x.P v).length<=n->(x.L v).isSome=true->NxtL (nxB A i x.P) v (x.P v):=by
 intro n
 induction n with
 | zero=>intro v b _;have e:=List.length_eq_zero_iff.1 (Nat.le_zero.1 b);rw [e];exact .nil (by unfold nxB;rw [e])| succ n g=>
   intro v b c;obtain⟨l,c⟩:=Option.isSome_iff_exists.1 c;rcases h.path v l c with⟨_,f,_⟩|⟨a,m,k,_,_,_,d,j,_⟩
   . rw [f];exact .nil (by unfold nxB;rw [f])
   . have e:=g (v:=fsB i (A.getD a default)) (by rw [d,XP]at b;omega) (by rw [j];rfl);rw [d];exact .cons (by unfold nxB;rw [d]) e
theorem SvB.nxtD(h:SvB A N r al pi i x)(c:(x.L v).isSome=true)(b:nxB A i x.P v=some (y,w)):(x.L w).isSome=true:=by
 obtain⟨l,c⟩:=Option.isSome_iff_exists.1 c;rcases h.path v l c with⟨_,d,_⟩|⟨a,m,g,_,_,_,e,f,_⟩
 . unfold nxB at b;rw [d]at b;cases b
 . unfold nxB at b;rw [e]at b;cases b;rw [f];rfl
end
theorem bo_init{k l o:Hp}{x y:Sx}{m n:List Nat}(H:OZ k)(R:Row o br (ik pn s t vPi (fun j=>if j=true then y else x) (.slice none 0 0) ⟨fun _=>iT,[],FAR,0⟩) 1)(U:br<k.n)(v:Mo (· =br) l o)(p:k.n<=l.n)(C: ∀q∈x.L false,Has l q.1 q.2)(I: ∀q∈y.L true,Has o q.1 q.2)(J:x.Ok iT)(K:y.Ok iT)(D:cF l m (ptrTo x.p) N (fun _=>none))(L:cF o n (ptrTo y.p) N (fun _=>none))(nx: ∀c∈keys (x.L false) []++m,k.n<=c)(E: ∀c∈keys (y.L true) []++n,l.n<=c)(M:(keys (x.L false) []).Nodup)(O:(keys (y.L true) []).Nodup)(P: ∀c∈m,c∉keys (x.L false) [])(Q: ∀c∈n,c∉keys (y.L true) []):fD o br pn s t vPi (fun j=>if j=true then y else x) (fun j=>if j=true then n else m) (.slice none 0 0) N ⟨fun _=>iT,[],FAR,0⟩/\ ∀c∈boB br pn s t vPi (fun j=>if j=true then y else x) (fun j=>if j=true then n else m) (.slice none 0 0) ⟨fun _=>iT,[],FAR,0⟩,c=br\/k.n<=c:=by
 have r:=v.ok0;have F: ∀c∈keys (x.L false) [],c<l.n:=fun c d=>by simp only [keys,Xo,Xh]at d;obtain⟨q,f,rfl⟩:=List.mem_map.1 d;exact(C q f).lt r
 have G:=D.lt r;have w: ∀c∈keys (x.L false) [],k.n<=c:=fun c d=>nx c (Xf _ d);have z: ∀c∈m,k.n<=c:=fun c d=>nx c (Xq _ d);have u: ∀c∈keys (y.L true) [],l.n<=c:=fun c d=>E c (Xf _ d);have A: ∀c∈n,l.n<=c:=fun c d=>E c (Xq _ d);have B:keys (boL false br pn s t vPi (fun j=>if j=true then y else x) (.slice none 0 0) ⟨fun _=>iT,[],FAR,0⟩) (boG (.slice none 0 0) ⟨fun _=>iT,[],FAR,0⟩)=br::(keys (x.L false) []++keys (y.L true) []):=by simp [keys,boL,boG,eH]
 have own: ∀q∈boL false br pn s t vPi (fun j=>if j=true then y else x) (.slice none 0 0) ⟨fun _=>iT,[],FAR,0⟩,Has o q.1 q.2:=fun q f=>by
  rcases List.mem_cons.1 f with rfl|f
  . exact R
  . rcases List.mem_append.1 f with f|f
    . have f:q∈x.L false:=f;refine v.has (C q f) fun e=>?_;have:=w q.1 (by simp only [keys,Xo,Xh];exact List.mem_map.2 ⟨q,f,rfl⟩);omega
    . exact I q f
 refine⟨⟨own,.inl ⟨rfl,rfl⟩,?_,?_,?_,?_⟩,?_⟩
 . rw [B,XV,List.nodup_append];refine⟨fun g=>?_,M,O,fun a S b T e=>?_⟩
   . rcases List.mem_append.1 g with h|h
     . have:=w _ h;omega
     . have:=u _ h;omega
   . have:=F a S;have:=u b T;omega
 . intro i;cases i
   . exact D.mo v (fun c d e=>by have:=z c d;omega)
   . exact L
 . intro i;cases i
   . exact J
   . exact K
 . intro i c d;rw [B];cases i
   . have d:c∈m:=d;have:=G c d;have:=z c d;refine⟨fun g=>?_,fun g=>?_⟩
     . rcases List.mem_cons.1 g with h|h
       . omega
       . rcases List.mem_append.1 h with h|h
         . exact P c d h
         . have:=u c h;omega
     . have:=A c g;omega
   . have d:c∈n:=d;have:=A c d;refine⟨fun g=>?_,fun g=>?_⟩
     . rcases List.mem_cons.1 g with h|h
       . omega
       . rcases List.mem_append.1 h with h|h
         . have:=F c h;omega
         . exact Q c d h
     . have g:c∈m:=g;have:=G c g;omega
 . intro c d;unfold boB at d;rw [B]at d;rcases List.mem_append.1 d with h|h
   . rcases List.mem_cons.1 h with h|h
     . exact .inl h
     . rcases List.mem_append.1 h with h|h
       . exact .inr (w c h)
       . exact .inr (Xj p (u c h))
   . rcases List.mem_append.1 h with h|h
     . exact .inr (z c h)
     . exact .inr (Xj p (A c h))
theorem st_rg(i:OZ h){l:List Value}{v:Value}(R:Row h b l 1)(G:ij h (v,1,vs))(a: ∀c,ar v c->c≠b):St (fun c=>c=b\/ar v c) h h [(b,.row l 1)] [(v,1,vs)]:=by
 refine⟨Mo.refl i,fun p d=>?_,fun p d=>?_,?_⟩
 . rw [List.mem_singleton.1 d];exact⟨.inr (.inl rfl),R⟩
 . rw [List.mem_singleton.1 d];refine⟨G,fun c f=>.inr (.inr ?_)⟩;rcases G with⟨e,_⟩|⟨g,n,e,_⟩
   . simp only []at e;subst e;cases f
   . simp only []at e;subst e;cases f;rfl
 . rcases G with⟨e,_⟩|⟨g,n,e,_⟩
   . simp only []at e;subst e;exact(by simp:([b]:List Nat).Nodup)
   . simp only []at e;subst e;have:=a g rfl;simp [keys,eH];exact fun h=>this h.symm
theorem natC_flat(l:List Nat):(l.flatMap bM).all mr=true:=by
 induction l with
 |nil=>rfl|cons x l a=>rw [XS,List.all_append,a];rfl
theorem BiI.keyB(h:BiI A N rt al pi σ)(a:N<=12)(i:Bool)(v:Nat)(k:Int)(b:(σ.sd i).K v=some k):-1000000000000000000<=k/\k<=1000000000000000000:=by
 obtain⟨_,l,c,e⟩:=(h.sv i).op v k b;obtain⟨_,d,g,_⟩:=(h.sv i).lab v l c;have j:=XH cg (Xj (h.sv i).len a);have m:=kK;have n:=hU;obtain⟨o,p⟩:=d;cases i
 . have f:qB pi false v=pi v:=rfl;omega
 . have f:qB pi true v= -pi v:=rfl;omega
theorem yL(ok:OZ h0){z:Gra}(J:Good z)(V:aP h0 nb (ptrTo C) z)(sP:aw h0 1 (encI .i64) vPi pis)(lP:pis.length=z.nodes\/pis=[]/\vPi=.slice none 0 0)(hs:s<z.nodes)(ht:t<z.nodes)(a3:s≠t):Ret zM 50 [ptrTo C,.agg ⟨[.int .i64 (s:Nat),.int .i64 (t:Nat),.slice none 0 0,vPi]⟩] h0 fun r h'=>Gr h0 h'/\ ∃vA vE τ,r=.tuple #[.agg ⟨[.int .i64 (τ.dist:Nat),vA,vE]⟩,.int .i64 0]/\j7 z.arcs (fun _=>true) (fun v=>pis.getD v 0) (kU (fun v=>pis.getD v 0) s t) τ/\
  aw h' 4 dz vE τ.ev/\aw h' 1 bM vA (if τ.dist<FAR then qq τ else [])/\ ∀c,ar vA c\/ar vE c->h0.n<=c:=by
 have S:=Si ok;have fP:=sP.fl;have W:=J.n2;have ca:=hU;have bc: ¬((s:Int)=(t:Int)):=by omega
 have hA: ∀a∈z.arcs,a.s<z.nodes/\a.t<z.nodes/\a.w<=cg:=fun a ha=>J.arcs a ha;refine erA (n:=113) (rs:=[.cell 4 96,.tmp 5]) e50 ?_;simp only [BZ,seval];refine ab (aW (by intro x e;cases e)) S ?_;clear S;intro h Y S b6;simp only [ac]at S;simp only [BZ];refine ab au S ?_;clear S;intro h Z S b7;simp only [BZ,Xp,Xi,Xv,S.lds (b:=Y) (o:=0) (n:=4) m1 (lbt rfl),seval];refine ae (bright_ok S.ok (V.gr S.gr) hs ht (sP.gr S.gr) lP) ?_;intro h g;replace S:=S.call g;simp only [BZ,bc,Xp,Xi,Xv,S.ld (b:=Y) (o:=0) m1 rfl,S.ld (b:=Y) (o:=1) m1 rfl,S.lds (b:=Y) (o:=0) (n:=4) m1 (lbt rfl),seval];refine ab (aW (by intro x e;cases e)) S ?_;clear S;intro h d S bu;simp only [ac]at S;have Rq:=S.row (b:=d) m0;have R3:=S.row (b:=Y) m2;have R4:=S.row (b:=Z) m1;have k3:=R3.lt S.ok;have k4:=R4.lt S.ok;have kq:=Rq.lt S.ok;have ap:=S.apart;simp only [keys,Xm,Xt,Xo,Xh,XV,Xw,Xr,or_false,not_or]at ap;have a4:Y≠d:=fun e=>by omega
 have bd:Z≠d:=fun e=>by omega
 have g0:=S.gr;have be:=S.ok;have eF:((FAR:Nat):Int)=72057594037927936:=by rw [hU];rfl
 rename Hp=>hA';have G: ∀{h:Hp},Mo (· =d) hA' h->Gr h0 h:=fun f=>(g0.fr.trans f (fun i E=>.inr (by subst E;omega)):Mo NoM h0 _).gr;have a5: ∀{h:Hp} {b:Nat} {l:List Value},Mo (· =d) hA' h->Row hA' b l 1->b≠d->Row h b l 1:=fun {h b l} f r e=>f.has (b:=b) (o:=.row l 1) r e;simp only [BZ,S.ld (b:=Y) (o:=0) m2 rfl,seval];have O:Ret zM 128 [ptrTo d,.int .i64 0,.int .i64 (s:Nat),.int .i64 1,.func (.func (outF false)) #[ptrTo C] #[],.func (.func (nG false)) #[] #[]] hA' _:=AP be (V.gr g0) Rq rfl rfl (i:=false) (v:=s) dI dI;refine step_ret O ?_;rintro r P ⟨f1,x,F1,R1,hx,xA,xH,ox,Hx,nx,dx,ax⟩;clear O;clear S;have S:=Si f1.ok;have bf:Row P Y _ 1:=f1.has (b:=Y) (o:=.row _ 1) R3 a4;simp only [BZ,bf.load1 (o:=1) rfl,seval];have O:Ret zM 128 [ptrTo d,.int .i64 1,.int .i64 (t:Nat),.int .i64 (-1),.func (.func (outF true)) #[ptrTo C] #[],.func (.func (nG true)) #[] #[]] P _:=AP f1.ok (V.gr (G f1)) R1 rfl rfl (i:=true) (v:=t) dI dI;refine step_ret O ?_;rintro r Q ⟨f2,y,F2,R2,hy,yA,yH,oy,Hy,ny,dy,ay⟩;clear O;have bh:Row Q d (ik (ptrTo C) s t vPi (fun j=>if j=true then y else x) (.slice none 0 0) ⟨fun _=>iT,[],FAR,0⟩) 1:=by unfold ik;rw [eF];exact R2
 obtain⟨A0,K⟩:=bo_init be bh kq f2 f1.n hx hy ox oy Hx Hy nx ny dx dy ax ay;have ad: ∀j:Bool,((fun j:Bool=>if j=true then y else x) j).vA=.func (.func (outF j)) #[ptrTo C] #[]/\((fun j:Bool=>if j=true then y else x) j).vH=.func (.func (nG j)) #[] #[]:=fun j=>by
  cases j
  . exact⟨xA,xH⟩
  . exact⟨yA,yH⟩
 have L:Mo (· =d) hA' Q:=f1.trans f2 (fun i E=>.inl E);clear R2 bh hx hy ox oy Hx Hy nx ny dx dy ax ay xA xH yA yH f1 f2 R1 bf S;generalize(fun j:Bool=>if j=true then y else x)=X0 at A0 K ad;generalize(fun j:Bool=>if j=true then F2 else F1)=F0 at A0 K;have nP: ∀{h:Hp} {X:Bool->Sx} {F:Bool->List Nat} {vE:Value} {σ:Bi},(∀c∈boB d (ptrTo C) s t vPi X F vE σ,c=d\/hA'.n<=c)-> ∀c,ar vPi c->c∉boB d (ptrTo C) s t vPi X F vE σ:=fun {h X F vE σ} pB c B hm=>by have P:=sP.blt ok B;have Q:=g0.n;rcases pB c hm with h|h<;>omega
 have bi:=L.ok;have S:=Si bi;rename Hp=>hB;have l5:=A0.rows.1.load1 (o:=5) rfl;have bk:=(a5 L R3 a4).load1 (o:=0) rfl;simp only [BZ];refine ao (av rfl) (q:=0) (ps:=[]) (by kernel_rfl) ?_;simp only [BZ,cls,zO,l5,bk,seval];have O:Ret zM 133 [ptrTo d,ptrTo (X0 false).b,.int .i64 (s:Nat),.int .i64 (-1),.int .i64 0] hB _:=tI bi A0 (sP.gr (G L)) lP (nP (h:=hB) K) W (As (A:=z.arcs) (al:=fun _=>true) (s:=s) (t:=t)) (i:=false) (v:=s) (lab:=0) (p:=[]) hs (Xe _);refine bO O ?_;rintro r hC ⟨f4,X1,F1,A1,e1,a1⟩;clear O;simp only [BZ,seval];have af: ∀c∈boB d (ptrTo C) s t vPi X1 F1 (.slice none 0 0) _,c=d\/hA'.n<=c:=fun c B=>(a1 c B).elim (fun h=>K c h) (fun h=>.inr (Xj L.n h));have H:Mo (· =d) hA' hC:=L.trans f4 K;have I1:=(As (A:=z.arcs) (al:=fun _=>true) (pi:=fun v=>pis.getD v 0) (s:=s) (t:=t)).reach (b:=false) (v:=s) (p:=[]) (lab:=0) W hs (Xe _) (Xe _) (.inl ⟨rfl,rfl,rfl⟩);clear S;have S:=Si H.ok;have l6:=A1.rows.1.load1 (o:=6) rfl;have bl:=(a5 H R3 a4).load1 (o:=1) rfl;refine ao (av rfl) (q:=0) (ps:=[]) (by kernel_rfl) ?_;simp only [BZ,cls,zO,l6,bl,seval];have O:Ret zM 133 [ptrTo d,ptrTo (X1 true).b,.int .i64 (t:Nat),.int .i64 (-1),.int .i64 0] hC _:=tI H.ok A1 (sP.gr (G H)) lP (nP (h:=hC) af) W I1 (i:=true) (v:=t) (lab:=0) (p:=[]) ht (Xe _);refine bO O ?_;rintro r hD ⟨f5,X2,F2,A2,e2,R⟩;clear O;simp only [BZ,seval];have eI:du (fun v=>pis.getD v 0) true (du (fun v=>pis.getD v 0) false ⟨fun _=>iT,[],FAR,0⟩ s 0 []) t 0 []=kU (fun v=>pis.getD v 0) s t:=rfl;rw [eI]at A2 R;have bm: ∀c∈boB d (ptrTo C) s t vPi X2 F2 (.slice none 0 0) (kU (fun v=>pis.getD v 0) s t),c=d\/hA'.n<=c:=fun c B=>(R c B).elim (fun h=>af c h) (fun h=>.inr (Xj H.n h));have a6:Mo (· =d) hA' hD:=H.trans f5 af;have I2:=wX (A:=z.arcs) (al:=fun _=>true) (pi:=fun v=>pis.getD v 0) W hs ht;have bn: ∀j,(X2 j).vA=.func (.func (outF j)) #[ptrTo C] #[]/\(X2 j).vH=.func (.func (nG j)) #[] #[]:=fun j=>⟨(e2 j).2.1.trans ((e1 j).2.1.trans (ad j).1),(e2 j).2.2.trans ((e1 j).2.2.trans (ad j).2)⟩;have O2:=fun j=>initB_O (pi:=fun v=>pis.getD v 0) (s:=s) (t:=t) j;refine step_ret (CY a6.ok A2 (I2.keyB W) (I2.distLe W)) ?_;rintro r hE ⟨gE,nx⟩;simp only [BZ,seval];have A3:=A2.gr gE;have bo:Mo (· =d) hA' hE:=a6.trans (gE.fr (M:=NoM)) (fun _ h=>h.elim);refine aX (fun(σ:Bi) ρ h=> ∃X F vE,Mo (· =d) hA' h/\fD h d (ptrTo C) s t vPi X F vE z.nodes σ/\(∀c∈boB d (ptrTo C) s t vPi X F vE σ,c=d\/hA'.n<=c)/\(∀j,(X j).vA=.func (.func (outF j)) #[ptrTo C] #[]/\(X j).vH=.func (.func (nG j)) #[] #[])/\BiI z.arcs z.nodes (rtB s t) (fun _=>true) (fun v=>pis.getD v 0) σ/\σ.ev.length<=200*((σ.sd false).O.length+(σ.sd true).O.length)/\
  (∀τ,j7 z.arcs (fun _=>true) (fun v=>pis.getD v 0) σ τ->j7 z.arcs (fun _=>true) (fun v=>pis.getD v 0) (kU (fun v=>pis.getD v 0) s t) τ)/\((StopB σ/\ρ 7=.pointer none)\/ ∃i,TurnB σ i/\ρ 7=ptrTo (X i).b)/\ρ 0=ptrTo C/\ρ 4=ptrTo Z/\ρ 6=ptrTo d) (fun σ=>2*z.nodes-((σ.sd false).O.length+(σ.sd true).O.length)) ?_ (kU (fun v=>pis.getD v 0) s t) _ _ ?_
 . clear A2 A3 A1 A0 I2 I1 O2 K af bm L H a6 bo nx e1 e2 ad bn a1 R eI gE f4 f5 S l5 bk l6 bl;intro σ ih ρ h ⟨X,F,vE,fh,A,pB,eV,I,hev,hEnd,nx,r0,r4,r6⟩;have o1:=(I.sv false).len;have o2:=(I.sv true).len;rcases nx with⟨a3,r7⟩|⟨i,tu,r7⟩
   . have gh:=G fh;have N:=fh.ok;have S0:=A.st N false;have l7:=A.rows.1.load1 (o:=7) rfl;have l5:=A.rows.1.load1 (o:=5) rfl;have a7:=a5 fh R4 bd;have cb:=a7.lt N;have nE: ∀c,ar vE c->h0.n<=c/\c≠d/\c≠Z/\c<h.n:=fun c B=>by
      have P:=pB c (Xf _ (fJ (p:=(vE,4,σ.ev.flatMap dz)) m0 (mE A.ev B)));have Q:c≠d:=fun e=>(S0.gblk m0 B).2 (by rw [e];exact m0);have h3:=A.ev.lt N (mE A.ev B);have:=g0.n;rcases P with h|h
      . exact absurd h Q
      . exact⟨by omega,Q,by omega,h3⟩
     have sE:aw h 4 dz vE σ.ev:=A.ev.sl rfl sj (by decide);have fE:=sE.fl;by_cases hd:σ.dist<FAR
     . have a8:(σ.dist:Int)<72057594037927936:=(by omega);obtain⟨x,y,q1,q2,_⟩:=(I.dm.resolve_left (fun h=>by omega)) false;have q2:(σ.sd true).L σ.meet=some y:=q2;have ai:=I.sv false;have ak:=I.sv true;have b8:=(ai.lab _ _ q1).2.2.2.1;have b9:=(ak.lab _ _ q2).2.2.2.1;have nd:=(List.nodup_cons.1 (show(d::_).Nodup from A.nd)).1;have bv:(X true).b≠d:=fun e=>nd (by rw [<-e];simp [Sx.L]);have bx:(X true).ma≠d:=fun e=>nd (by rw [<-e];simp [Sx.L]);clear S0;simp only [BZ,zO,r6,r7,l7,a8,l5,seval];refine step_ret (back_ok N (V.gr gh) J (A.bk false) (eV false).2 (D:=fun v=>((σ.sd false).L v).isSome=true) (fun v hv=>⟨hv,ai.ids _ (Xz _) hv⟩) (fun v y w hv V=>ai.nxtD hv V) (by rw [q1];rfl) (ai.nxt _ (Xz _) (by rw [q1];rfl)) (by omega)) ?_;rintro v1 P ⟨g1,G1,n1⟩;have bB:Fl v1:=G1.fl;have ba: ∀c,ar v1 c->c≠d:=fun c B e=>(by have:=n1 c B;have:=A.rows.1.lt N;omega);have S:=st_rg g1.ok (A.rows.1.gr g1) G1 ba;simp only [ik]at S;simp only [BZ,seval];refine az (aA S (i:=0) rfl t41.2.2.1 bB (Xb (lbt rfl)) ono) ?_;clear S;rintro Q ⟨S,bE⟩;simp only [LC]at S;simp only [BZ,r6,S.ld (b:=d) (o:=8) m0 rfl,seval];refine step_ret (xJ S.ok (S.gown _ m0).1 (by omega)) ?_;rintro r h3 ⟨f3,G3⟩;have aL:Row h3 d _ 1:=f3.has (b:=d) (o:=.row _ 1) (S.row m0) (fun B=>ba _ B rfl);have S3:=st_rg f3.ok aL G3 ba;clear S;have S:=S3;clear S3;have fT:Mo (· =d) h h3:=((g1.fr (M:=(· =d))).trans bE (fun i E=>.inl E)).trans f3 (fun i E=>.inr (n1 i E));have bL:Mo (· =d) hA' h3:=fh.trans fT (fun i E=>.inl E);have B1:BkAt h3 d (ptrTo C) σ.meet true (X true) (σ.sd true):=⟨aL.load1 (o:=0) rfl,aL.load1 (o:=10) rfl,fT.has (b:=(X true).b) (o:=.row _ 1) (A.rows.2 true) bv,fT.has (b:=(X true).ma) (o:=.map _ _) (A.bk true).map bx,A.ok true⟩;have bP:=aL.lt f3.ok;simp only [BZ];refine ao (av rfl) (q:=0) (ps:=[(5,12)]) (by kernel_rfl) ?_;simp only [BZ,cls,zO,r6,S.ld (b:=d) (o:=8) m0 rfl,S.ld (b:=d) (o:=6) m0 rfl,seval];refine bO (back_ok f3.ok (V.gr (G bL)) J B1 (eV true).2 (D:=fun v=>((σ.sd true).L v).isSome=true) (fun v hv=>⟨hv,ak.ids _ (Xz _) hv⟩) (fun v y w hv V=>ak.nxtD hv V) (by rw [q2];rfl) (ak.nxt _ (Xz _) (by rw [q2];rfl)) (by omega)) ?_;rintro v2 h4 ⟨g4,G2,cc⟩;have bq:=ag g4 bP;replace S:=S.call g4;have s2:aw h4 1 bM v2 ((σ.sd true).P σ.meet):=G2.sl rfl dr (by decide);simp only [BZ,cls,seval];refine lu (S.grow (j:=0) (m:=((σ.sd true).P σ.meet).length) (new:=((σ.sd true).P σ.meet).flatMap bM) rfl t41.1 XI (by decide) t41.2.2.2.2.2 s2.src (by rw [pN];omega) (by decide) (natC_flat _) (by rw [pN,pN,List.length_reverse];omega)) ?_;clear S;rintro h5 vA S;simp only [LC]at S;have br:Fl vA:=(S.gown _ m0).1.fl;simp only [BZ,cls,seval];refine cJ (aA S (i:=0) rfl t41.2.2.1 br (Xb (lbt rfl)) ono) ?_;clear S;rintro h6 ⟨S,cf⟩;simp only [LC]at S;simp only [BZ,r6,seval];refine⟨by simp only [aI,aO,aF,aK,aH,ne_eq,not_false_eq_true,aU,aY,aN,aJ,bw,bN,aD,Xa,r0,r4,r6,r7,ah,hZ,an bq,aq bq,seval],?_⟩;have bs:=S.ok;have bT:Mo (fun c=>c=d\/ar v1 c) h3 h6:=S.fr;have bb:Mo (· =d) h h6:=fT.trans bT (fun i E=>E.elim .inl (fun h=>.inr (n1 i h)));have bX:Row h6 Z _ 1:=bb.has (b:=Z) (o:=.row _ 1) a7 bd;have T:=S.lds (b:=d) (o:=7) (n:=3) m0 (lbt rfl);simp only [Xd,Xc]at T;have sA:aw h6 1 bM vA (qq σ):=(S.gown _ m0).1.sl (by unfold qq;rw [XN]) dr (by decide);have nA: ∀c,ar vA c->h0.n<=c/\c≠Z:=fun c B=>by
        obtain⟨P,Q⟩:=S.gblk m0 B;have:=gh.n;have:=fT.n;rcases P with h|h|h
        . exact⟨by omega,by omega⟩
        . exact absurd (by rw [h];exact m0) Q
        . have:=n1 c h;exact⟨by omega,by omega⟩
       have bY:=sE.mo bb (fun c B e=>(nE c B).2.1 e);have g6:Gr h0 h6:=G (fh.trans bb (fun i E=>.inl E));clear S;have S:=St.init1 bs (o:=.row _ 1) bX;simp only [BZ,r4,T,seval];refine az (stA S (i:=0) t96.2.1 (by simp only [ac,XA,XD,br.2.1,fE.2.1,Xa];rfl)) ?_;clear S;rintro h7 ⟨S,a0⟩;simp only [LC,ac,lay,Xc,Xd,seval]at S;simp only [BZ,aa];refine(bD (by decide) (by simp only [aD,r4,ah,seval];exact bI t96.1 t96.2.1 (S.lds (b:=Z) (o:=0) (n:=3) m0 (lbt rfl)))).2 ?_;refine(dP (by decide)).2 (cu.2 ?_);have gZ:Gr h0 h7:=(g6.fr.trans S.fr (fun i E=>.inr (by subst E;omega)):Mo NoM h0 h7).gr;exact⟨gZ,vA,vE,σ,rfl,hEnd σ (.stop a3),bY.mo a0 (fun c B e=>(nE c B).2.2.1 e),by rw [if_pos hd];exact sA.mo a0 (fun c B e=>(nA c B).2 e),fun c B=>B.elim (fun h=>(nA c h).1) (fun h=>(nE c h).1)⟩
     . have a8: ¬(σ.dist:Int)<72057594037927936:=(by omega);have T:=A.rows.1.load (o:=7) (n:=3) (lbt rfl);simp only [ik,Xd,Xc]at T;have g6:=gh;have fN:Fl (.slice none 0 0):=bH;have S:=St.init1 N (o:=.row _ 1) a7;simp only [BZ,r6,r7,l7,a8,seval];simp only [BZ,r4,T,seval];refine az (stA S (i:=0) t96.2.1 (by simp only [ac,XA,XD,fN.2.1,fE.2.1,Xa];rfl)) ?_;clear S;rintro h7 ⟨S,a0⟩;simp only [LC,ac,lay,Xc,Xd,seval]at S;simp only [BZ,aa];refine(bD (by decide) (by simp only [aD,r4,ah,seval];exact bI t96.1 t96.2.1 (S.lds (b:=Z) (o:=0) (n:=3) m0 (lbt rfl)))).2 ?_;refine(dP (by decide)).2 (cu.2 ?_);have gZ:Gr h0 h7:=(g6.fr.trans S.fr (fun i E=>.inr (by subst E;omega)):Mo NoM h0 h7).gr;exact⟨gZ,_,vE,σ,rfl,hEnd σ (.stop a3),sE.mo a0 (fun c B e=>(nE c B).2.2.1 e),by rw [if_neg hd];exact .inl ⟨rfl,rfl⟩,fun c B=>B.elim (fun h=>h.elim) (fun h=>(nE c h).1)⟩
   . obtain⟨v,k,hp⟩: ∃v k,og (σ.sd i).K v k:=by
      obtain⟨v,k,u,l,p1,p2,_,_⟩:=tu;cases i
      . exact⟨v,k,p1⟩
      . exact⟨u,l,p2⟩
     have gh:=G fh;have b0: ∀c∈boB d (ptrTo C) s t vPi X F vE σ,h0.n<=c:=fun c B=>(pB c B).elim (fun e=>by omega) (fun e=>Xj g0.n e);simp only [BZ,r6,r7,seval];refine step_ret (bstep_ok gh J V A b0 sP lP I (by omega) hp (eV i).1 (eV i).2) ?_;rintro r P ⟨f1,X',F',b1,A',e',a2⟩;obtain⟨I',ke⟩:=wU W hA I hp.1;have b2:(iz z.arcs (fun _=>true) (fun v=>pis.getD v 0) i v (cG σ i v)).ev.length<=σ.ev.length+200:=(by have P:=yC (A:=z.arcs) (al:=fun _=>true) (pi:=fun v=>pis.getD v 0) (b:=i) (v:=v) (outs z.arcs (fsB i) z.arcs.length v) (σ:=cG σ i v);have Q:(cG σ i v).ev.length=σ.ev.length+1:=(by simp [cG]);have h3:=jQ z.arcs (fsB i) z.arcs.length v;have:=J.many;unfold iz;omega);have eO:((iz z.arcs (fun _=>true) (fun v=>pis.getD v 0) i v (cG σ i v)).sd false).O.length+((iz z.arcs (fun _=>true) (fun v=>pis.getD v 0) i v (cG σ i v)).sd true).O.length=(σ.sd false).O.length+(σ.sd true).O.length+1:=by
      have k1:=ke.O;have k2:=ke.ot;rw [clo_b]at k1;rw [clo_n]at k2;cases i
      . rw [k1,show((iz z.arcs (fun _=>true) (fun v=>pis.getD v 0) false v (cG σ false v)).sd true)=σ.sd true from k2];simp only [XF,XY];omega
      . rw [k1,show((iz z.arcs (fun _=>true) (fun v=>pis.getD v 0) true v (cG σ true v)).sd false)=σ.sd false from k2];simp only [XF,XY];omega
     have U: ∀τ,j7 z.arcs (fun _=>true) (fun v=>pis.getD v 0) (iz z.arcs (fun _=>true) (fun v=>pis.getD v 0) i v (cG σ i v)) τ->j7 z.arcs (fun _=>true) (fun v=>pis.getD v 0) (kU (fun v=>pis.getD v 0) s t) τ:=fun τ h=>hEnd τ (.step tu hp h);generalize iz z.arcs (fun _=>true) (fun v=>pis.getD v 0) i v (cG σ i v)=τ at A' a2 I' b2 eO U;have p1:=(I'.sv false).len;have p2:=(I'.sv true).len;have bt:Mo (· =d) hA' P:=fh.trans f1 pB;simp only [BZ,r6,seval];refine step_ret (CY bt.ok A' (I'.keyB W) (I'.distLe W)) ?_;rintro r Q ⟨g2,b5⟩;simp only [BZ,seval];refine ih τ _ _ (by omega) ⟨X',F',b1,bt.trans (g2.fr (M:=NoM)) (fun _ h=>h.elim),A'.gr g2,fun c B=>(a2 c B).elim (pB c) (fun h=>.inr (Xj fh.n h)),fun j=>⟨(e' j).2.1.trans (eV j).1,(e' j).2.2.trans (eV j).2⟩,I',by omega,U,?_,by simp [aB,r0,ah,r4,r6]⟩;rcases b5 with⟨a,rfl⟩|⟨j,a,rfl⟩
     . exact .inl ⟨a,by simp [aB]⟩
     . exact .inr ⟨j,a,by simp [aB,ah]⟩
 . refine⟨X2,F2,_,bo,A3,bm,bn,I2,by rw [xQ];exact Xe _,fun τ h=>h,?_,by simp [aB,cL,ah]⟩;rcases nx with⟨a,rfl⟩|⟨j,a,rfl⟩
   . exact .inl ⟨a,by simp [aB]⟩
   . exact .inr ⟨j,a,by simp [aB,ah]⟩
def wJ(a b:Int):Int:=if wy a<72057594037927936 then(if wy b<72057594037927936 then wy a-wy b else 72057594037927936)else 72057594037927936
theorem BL(Y:OZ h0){xs:List Int}(Z:ur zM g post.toList h0 D W (xs.map fun(x:Int)=>[.int .i64 x]))(I: ∀b,W b->b<h0.n)(hn:xs.length<100000):Ret zM 213 [.slice none 0 0,.func (.func g) #[] post] h0 fun r h'=>Mo W h0 h'/\ij h' (r,1,ints xs)/\ ∀c,ar r c->h0.n<=c:=by
 have S:=Si Y;refine erA (n:=13) (rs:=[.tmp 4]) e213 ?_;simp only [BZ,seval];refine ab (bz (by exact bH)) S ?_;clear S;intro h l S t;simp only [BZ,if_false,seval];replace S:=S.nilG (k:=1);have J:=S.gr;replace S:=S.monoM (M:=W);have C:=S.fr;refine gP S (g:=g) (a:=#[]) (b:=post) (by simp [bw,aB,cK,dE]) rfl rfl ?_;intro E u s p ad af K;obtain⟨X,N,p⟩: ∃X:fF,X=_/\St W h0 E [(s,.loop X),(u,.dfr),(l,.row [.slice none 0 0] 1)] [(.slice none 0 0,1,[])]:=⟨_,rfl,p⟩;have O: ∀c,h0.n<=c-> ¬W c:=fun c h G=>by have:=I c G;omega
 have hJ:Yld zM s (fun k h' F=> ∃(e:Value),St W h0 h' [(s,.loop X),(u,.dfr),(l,.row [e] 1)] [(e,1,ints (xs.take k))]/\k<=xs.length/\(∀c∈F,h0.n<=c)/\F=keys [(s,.loop X),(u,.dfr),(l,.row [e] 1)] [(e,1,ints (xs.take k))]) (fun _ _=>False) (xs.map fun(x:Int)=>[.int .i64 x]):=by
  refine⟨?_,?_,fun _ _ h=>h.elim,?_⟩
  . rintro i h F ⟨e,S,_,_,rfl⟩;exact⟨S.ok,fun b f=>S.key_lt f⟩
  . rintro i h F h' ⟨e,S,a,b,rfl⟩ B;exact⟨e,S.call B,a,b,rfl⟩
  . rintro i x hR F v ⟨e,S,a,b,rfl⟩;have w:i<xs.length:=(by have:=(List.getElem?_eq_some_iff.1 v).1;simpa using this);rw [Yh,Xg w]at v;cases v;have tk:ints (xs.take (i+1))=ints (xs.take i)++[.int .i64 xs[i]]:=(by rw [List.take_add_one,Xg w];exact iO _ _);have tl:(xs.take i).length<=i:=(by rw [X6];omega);subst N;refine gK (S.get m0) (by rw [e213];rfl) rfl ?_;have P:=S;replace S:=S.base;simp only [BZ,seval];refine fG S (i:=0) rfl rfl rfl rfl rfl ?_;clear S;intro h S;simp only [LC]at S;simp only [BZ,S.ld (b:=l) (o:=0) m2 rfl,seval];refine ab (bZ (by exact t23.1) (by exact e2E) (by decide) (by rfl)) S ?_;clear S;intro h Q S R;simp only [LC,bJ,cd,ac,XJ,Xs,XE,XO,seval]at S;simp only [BZ,seval];have z:aR h 1 (.slice (some ⟨Q,0,none⟩) 1 1)=some (1,[.int .i64 xs[i]]):=(by simp only [aR];rw [S.lds (b:=Q) (o:=0) (n:=1*1) m0 (lbt rfl)];rfl);replace S:=S.drop1;refine dT (S.grow (j:=0) (m:=1) (new:=[.int .i64 xs[i]]) rfl t23.1 e2E (by decide) t23.2.2.2.2.2 z rfl (by decide) rfl (by rw [cC];simp;omega)) ?_;clear S z;rintro h A S;simp only [LC]at S;have fv:Fl A:=(S.gown _ m0).1.fl;simp only [BZ,seval];refine az (aA S (i:=2) rfl t23.2.2.1 fv (Xb (lbt rfl)) ono) ?_;clear S;rintro h ⟨S,_⟩;simp only [LC]at S;simp only [BZ];refine dC S (i:=0) rfl ?_;clear S;intro h S;simp only [LC]at S;rw [<-tk]at S;have H:=P.rebase S;refine .inl ⟨rfl,_,⟨A,H,by omega,fun c d=>?_,rfl⟩,S.fr,fun c d=>(S.key_own d).symm⟩;rcases S.key_own d with U|U
    . have:=P.fr.n;omega
    . exact b c U
 have q: ∀c∈keys [(s,Ob.loop X),(u,.dfr),(l,.row [.slice none 0 0] 1)] [(.slice none 0 0,1,[])],h0.n<=c:=fun c d=>by have n2:=t;have:=C.n;simp [keys,eH]at d;omega
 refine dh (Z s _ _ (fun _ _ h=>h) hJ ?_ E _ ?_ ?_ (fun c d=>O c (q c d)) ⟨_,p,Xe _,q,rfl⟩) fun o rc h' y=>iJ y ?_
 . rintro i h F h' ⟨e,S,a,b,rfl⟩ B;exact⟨e,S.step B (fun c d=>.inl d) (fun c d G=>O c (b c d) G),a,b,rfl⟩
 . have B:Mo W h0 E:=p.fr;exact⟨p.ok,p.fr.n,fun b f _=>(J.trans K).get b f,fun b f h=>by have:=q b f;omega,fun b f=>p.key_lt f⟩
 . exact fun b f=>(J.trans K).get b (I b f)
 . rintro F ⟨e,T,a,b,rfl⟩;rw [XR,XZ]at T b;subst N;refine⟨_,T.get m0,Nat.zero_ne_one,?_⟩;replace T:=T.dead;have S:=T;show Run _ _ _ _ _ _ _ _;simp only [BZ,S.ld (b:=l) (o:=0) m1 rfl,seval];refine df (gm [u] _ (L:=[(l,_)]) T.base fun h3 V=>⟨rfl,_,rfl,?_⟩);refine⟨(T.fr.trans V.fr (fun c d=>(T.key_own d).symm):Mo W h0 h3),(V.gown _ m0).1,fun x v=>?_⟩;refine b x ?_;have:eH (e,1,ints xs)=some x:=mE (T.gown _ m0).1 v;exact fJ m0 this
theorem EB(a:OZ h0){xs:List Int}(d:ur zM g post.toList h0 D W (xs.map fun(x:Int)=>[.int .i64 x]))(e: ∀b,W b->b<h0.n)(i:xs.length<100000):Ret zM 138 [.func (.func g) #[] post] h0 fun r h'=>Mo W h0 h'/\ij h' (r,1,ints xs)/\ ∀c,ar r c->h0.n<=c:=by
 have S:=Si a;refine erA (n:=5) (rs:=[.tmp 2]) e138 ?_;simp only [BZ,seval];refine step_ret (BL S.ok d e i) ?_;rintro r h ⟨f,q⟩;simp only [BZ,aa,seval];exact⟨f,q⟩
theorem D5(c:OZ h0){v t:Int}:aQ zM 140 [.int .i64 v,.int .i64 t] h0 (.int .i64 (wJ v t)):=by
 have S:=Si c;have d:=uy v;have e:=uy t;have w:am .i64 (wy v-wy t)=wy v-wy t:=by rw [wrap64]<;>omega
 refine erA (n:=18) (rs:=[.tmp 4]) e140 ?_;simp only [BZ,seval];refine ae (oG S.ok) ?_;intro h g;replace S:=S.call g;unfold wJ;by_cases a:wy v<72057594037927936
 . simp only [BZ,a,seval];refine ae (oG S.ok) ?_;intro h g;replace S:=S.call g;by_cases b:wy t<72057594037927936
   . simp only [BZ,b,seval];refine ae (nJ S.ok) ?_;intro h g;replace S:=S.call g;simp only [BZ,seval];refine ae (nJ S.ok) ?_;intro h g;replace S:=S.call g;simp only [BZ,aa,w,seval];exact S.gr
   . simp only [BZ,aa,b,seval];exact S.gr
 . simp only [BZ,aa,a,seval];exact S.gr
theorem twin1_ok(a:OZ hq)(t:TabAt hq m p N l R Q)(x: ∀i,i<l.length->(R i).length=N)(y: ∀i,i<l.length->(Q i).length=N)(z:l.length<1000){A:Value}{d:List Int}(j:aw hq 1 (encI .i64) A d)(e:d.length<1000){s w:Int}(I:hq.load b4 0 1=some [p])(J:hq.load b5 0 1=some [A])(K:hq.load b6 0 1=some [.int .i64 s])(L:hq.load o 0 1=some [.int .i64 w]):TellF zM hq 139 [ptrTo b4,ptrTo b5,ptrTo o,ptrTo b6] N (fun v=>wJ (iK N l.length R Q v w d) (iK N l.length R Q s v d)):=by
 intro h f k v V;have W:Fl p:=by obtain⟨b,_,_,_,rfl,_⟩:=t.ex;exact bA
 have X:=j.fl;have S:=Si f;have r:=k.load a I;have u:=k.load a J;have B:=k.load a K;have C:=k.load a L;have M:=aV f r;have O:=aV f u;have P:=aV f B;have T:=aV f C;refine erA (n:=18) (rs:=[.tmp 6]) e139 ?_;simp only [BZ];refine ao (av rfl) (q:=0) (ps:=[(4,7),(4,6),(4,5)]) (by kernel_rfl) ?_;simp only [BZ,cls,r,u,C,seval];refine bj (yE S.ok (t.keep a k) x y z (j.keep a k) e) ?_;intro Y c;have e4:=ag c M;have e5:=ag c O;have e6:=ag c P;have D:=ag c T;replace S:=S.call c;have Z:=c.n;simp only [BZ,cls,c.load r,c.load u,c.load B,seval];refine bj (yE S.ok ((t.keep a k).gr c) x y z ((j.keep a k).gr c) e) ?_;intro h2 g;have E:=ag g (show b4<_ by omega);have F:=ag g (show b5<_ by omega);have G:=ag g (show b6<_ by omega);have H:=ag g (show o<_ by omega);replace S:=S.call g;simp only [BZ,cls,seval];refine bj (D5 S.ok) ?_;intro h3 U;replace S:=S.call U;simp only [BZ,cls,aa,seval];refine⟨by simp only [aI,aO,aF,aK,aH,ne_eq,not_false_eq_true,aU,aY,aN,aJ,bw,bN,aD,Xa,ah,cK,dE,an e4,aq e4,an e5,aq e5,an e6,aq e6,an D,aq D,an E,aq E,an F,aq F,an G,aq G,an H,aq H,seval],?_⟩;exact S.gr
theorem bTwin_ok(J:OZ h0)(t:TabAt h0 m p N l R Q)(K: ∀i,i<l.length->(R i).length=N)(L: ∀i,i<l.length->(Q i).length=N)(M:l.length<1000)(O:N<=1000){A:Value}{a:List Int}(B:aw h0 1 (encI .i64) A a)(q:a.length<1000)(hs:s<N)(hw:w<N):Ret zM 51 [p,A,.int .i64 (s:Nat),.int .i64 (w:Nat)] h0 fun r h'=>Gr h0 h'/\aw h' 1 (encI .i64) r ((Xk N).map fun(v:Nat)=>wJ (iK N l.length R Q v w a) (iK N l.length R Q s v a))/\ ∀c,ar r c->h0.n<=c:=by
 have P:Fl p:=by obtain⟨b,_,_,_,rfl,_⟩:=t.ex;exact bA
 have fa:=B.fl;have S:=Si J;have T:0<=(w:Int)/\(w:Int)<(N:Int):=by omega
 have U:0<=(s:Int)/\(s:Int)<(N:Int):=by omega
 have V:decide (0<=(w:Int)/\(w:Int)<(N:Int))=true:=decide_eq_true T;have W:decide (0<=(s:Int)/\(s:Int)<(N:Int))=true:=decide_eq_true U;refine erA (n:=23) (rs:=[.tmp 8]) Tryz.e51 ?_;simp only [BZ,seval];refine ab (bz (by assumption)) S ?_;clear S;intro h X S C;simp only [BZ,if_false,seval];refine ab (bz (by assumption)) S ?_;clear S;intro h Y S D;simp only [BZ,if_false,seval];refine ab (bz (by exact aM)) S ?_;clear S;intro h Z S E;simp only [BZ,if_false,seval];refine ab (bz (by exact aM)) S ?_;clear S;intro h b7 S F;have d:=S.gr;have k:=S.ld (b:=X) (o:=0) m3 rfl;have l5:=S.ld (b:=Y) (o:=0) m2 rfl;have H:=S.ld (b:=Z) (o:=0) m1 rfl;have I:=S.ld (b:=b7) (o:=0) m0 rfl;have e:=S.ok;clear S;rename Hp=>hq;have S:=Si e;have tf:=twin1_ok e (t.gr d) K L M (B.gr d) q k l5 H I;simp only [BZ,k,H,seval];refine ae (iN S.ok (t.gr d)) ?_;intro h g;replace S:=S.call g;simp only [BZ,W,S.old k (fun h=>h),S.old I (fun h=>h),seval];refine ae (iN S.ok ((t.gr d).gr S.gr)) ?_;intro h g;replace S:=S.call g;simp only [BZ,V,S.old k (fun h=>h),seval];refine step_ret (C6 S.ok P dI) ?_;rintro r h ⟨g,u,y,rfl,n1,n2,y1,y2⟩;replace S:=S.call g;have z:=CJ e S.ok S.gr.keep S.fr.n (t.gr d) O tf y1 y2;have kn:=S.fr.n;have kG:=d.n;rename Hp=>hE;simp only [BZ,seval];generalize j:((Xk N).map fun(v:Nat)=>wJ (iK N l.length R Q v w a) (iK N l.length R Q s v a))=xs;have ad:xs.length=N:=by rw [<-j];simp
 replace z:lz zM 203 [] [ptrTo u,ptrTo y] hE (fun c=>c=u\/c=y\/c<hq.n) (xs.map fun x=>[.int .i64 x]):=by rw [<-j,List.map_map];exact z
 refine step_ret (EB S.ok (post:=#[ptrTo u,ptrTo y]) (iter_w z) (fun _ h=>h.elim) (by omega)) ?_;rintro r h2 ⟨f,G,nr⟩;have g2:=f.gr;simp only [BZ,aa,seval];exact⟨d.trans (S.gr.trans g2),G.sl rfl (fun _=>rfl) (by decide),fun c hc=>by have:=nr c hc;omega⟩
theorem pU(a:OZ h0){c:Int}:Ret zM 52 [.bool true,.int .i64 c] h0 fun _ h'=>Gr h0 h':=by have S:=Si a;refine erA (n:=9) (rs:=[]) Tryz.e52 ?_;simp only [BZ,seval];exact S.gr
def trouV(c:Int):Value:=.iface 104 (.agg ⟨[.int .i64 c]⟩)
theorem need_no(a:OZ h0){c:Int}:eB zM 52 [.bool false,.int .i64 c] none h0 fun o rc h'=>o=.pan (trouV c)/\Gr h0 h':=by have S:=Si a;refine enA (n:=9) (rs:=[]) Tryz.e52 ?_;simp only [BZ,seval];exact iH (cy ⟨rfl,S.gr⟩)
section
variable{h0:Hp}{bp nb s w:Nat}{γ:Gra}
theorem AD(b:OZ h0)(c:aP h0 nb (ptrTo bp) γ)(l:h0.load a 0 1=some [ptrTo bp])(d:v<γ.nodes):aQ zM 122 [.int .i64 (v:Nat),ptrTo a] h0 (.bool true):=by
 have S:=Si b;have e:(0:Int)<=(v:Int):=by omega
 refine erA (n:=12) (rs:=[.tmp 3]) e122 ?_;simp only [BZ,l,e,seval];refine ae (bC S.ok (c.gr S.gr)) ?_;intro h g;replace S:=S.call g;simp only [BZ,aa,aE,d,seval];exact S.gr
theorem asked2_ok(b:OZ h0)(l:h0.load a 0 1=some [ptrTo bp]):Ret zM 123 [ptrTo a] h0 fun _ h'=>Gr h0 h':=by have S:=Si b;refine erA (n:=4) (rs:=[]) e123 ?_;simp only [BZ,l,seval];refine step_ret (pU S.ok) ?_;intro r h g;replace S:=S.call g;simp only [BZ];exact S.gr
theorem asked3_ok(b:OZ h0)(c:aP h0 nb (ptrTo bp) γ)(d:h0.load a 0 1=some [ptrTo bp])(e:h0.load b6 0 1=some [.func (.func 122) #[] #[ptrTo a]])(f:h0.load b5 1 1=some [.int .i64 (s:Nat)])(i:s<γ.nodes):Ret zM 124 [ptrTo b6,ptrTo b5] h0 fun _ h'=>Gr h0 h':=by have S:=Si b;refine erA (n:=7) (rs:=[]) e124 ?_;simp only [BZ,e,f,seval];refine ae (AD S.ok c d i) ?_;intro h g;replace S:=S.call g;simp only [BZ,seval];refine step_ret (pU S.ok) ?_;intro r h g;replace S:=S.call g;simp only [BZ];exact S.gr
theorem asked4_ok(b:OZ h0)(c:aP h0 nb (ptrTo bp) γ)(d:h0.load a 0 1=some [ptrTo bp])(e:h0.load b6 0 1=some [.func (.func 122) #[] #[ptrTo a]])(f:h0.load b5 2 1=some [.int .i64 (w:Nat)])(i:w<γ.nodes):Ret zM 125 [ptrTo b6,ptrTo b5] h0 fun _ h'=>Gr h0 h':=by have S:=Si b;refine erA (n:=7) (rs:=[]) e125 ?_;simp only [BZ,e,f,seval];refine ae (AD S.ok c d i) ?_;intro h g;replace S:=S.call g;simp only [BZ,seval];refine step_ret (pU S.ok) ?_;intro r h g;replace S:=S.call g;simp only [BZ];exact S.gr
theorem asked5_ok(f:OZ h0)(c:aP h0 nb (ptrTo bp) γ){g:Value}(t:TabAt h0 m g γ.nodes l R Q)(E:l.length<=16)(y:1<=l.length){e:Nat}(j:h0.load e 0 1=some [ptrTo bp])(h:h0.load b4 0 1=some [g]):Ret zM 126 [ptrTo b4,ptrTo e] h0 fun _ h'=>Gr h0 h':=by
 have S:=Si f;have F:Fl g:=by obtain⟨b,_,_,_,rfl,_⟩:=t.ex;exact bA
 have z:=aV f j;have A:=aV f h;have B:(0:Int)<(l.length:Int):=by omega
 refine erA (n:=14) (rs:=[]) e126 ?_;simp only [BZ];refine FE (by kernel_rfl) (n:=11) (by kernel_rfl) (av rfl) (q:=0) (ps:=[(6,7)]) (by kernel_rfl) ?_;simp only [XP,List.length_nil,Xs,Xi,Xv,List.drop_succ_cons,Xp,seval];simp only [BZ,cls,h,seval];refine bO (jP S.ok (t.gr S.gr) (by omega)) ?_;rintro r y ⟨a,C,_⟩;replace S:=S.call a;have k:=ag a A;have o:=ag a z;simp only [BZ,cls,C.lenq,B,a.load h,seval];refine bj (lW S.ok (t.gr S.gr)) ?_;intro G d;have H:=a.n;have I:=d.n;have p:=ag d (show b4<_ by omega);have u:=ag d (show e<_ by omega);replace S:=S.call d;simp only [BZ,cls,d.load (a.load j),seval];refine bj (bC S.ok (c.gr S.gr)) ?_;intro J i;have v:=ag i (show b4<_ by omega);have x:=ag i (show e<_ by omega);replace S:=S.call i;simp only [BZ,cls,seval];refine⟨by simp only [aI,aO,aF,aK,aH,ne_eq,not_false_eq_true,aU,aY,aN,aJ,bw,bN,aD,Xa,ah,cL,an o,aq o,an k,aq k,an u,aq u,an p,aq p,an x,aq x,an v,aq v,seval],?_⟩
 try simp only [BZ,RetQ,jJ,cZ,jM,cls,touch,iu,ac,aa,n_new,decide_eq_true_eq,Bool.not_eq_true',decide_eq_false_iff_not,Yc,Bool.false_and,Bool.true_and,XQ,zO,Bool.true_eq_false,XB,XU,Yb,ah,seval]
 refine step_ret (pU S.ok) ?_;intro r K D;replace S:=S.call D;simp only [BZ];exact S.gr
theorem build_ask{a b c d:FuncId}{e f g h:Array Value}:jE zM 204 [(0,.func (.func a) #[] e),(1,.func (.func b) #[] f),(2,.func (.func c) #[] g),(3,.func (.func d) #[] h)]=some (.agg ⟨[.func (.func a) #[] e,.func (.func b) #[] f,.func (.func c) #[] g,.func (.func d) #[] h]⟩):=by unfold jE;rw [t204.2.2.2.1,t204.1];simp only [Tryz.t1.2.1];rfl
theorem se{a b c d:FuncId}{e f g h:Array Value}:jz zM 204 (.agg ⟨[.func (.func a) #[] e,.func (.func b) #[] f,.func (.func c) #[] g,.func (.func d) #[] h]⟩) (.int .i64 0)=some (.func (.func a) #[] e)/\
 jz zM 204 (.agg ⟨[.func (.func a) #[] e,.func (.func b) #[] f,.func (.func c) #[] g,.func (.func d) #[] h]⟩) (.int .i64 1)=some (.func (.func b) #[] f)/\
 jz zM 204 (.agg ⟨[.func (.func a) #[] e,.func (.func b) #[] f,.func (.func c) #[] g,.func (.func d) #[] h]⟩) (.int .i64 2)=some (.func (.func c) #[] g)/\
 jz zM 204 (.agg ⟨[.func (.func a) #[] e,.func (.func b) #[] f,.func (.func c) #[] g,.func (.func d) #[] h]⟩) (.int .i64 3)=some (.func (.func d) #[] h):=by
 unfold jz;rw [t204.1];simp only [Tryz.t1.2.1];refine⟨?_,?_,?_,?_⟩<;>rfl
theorem asked_ok(C:OZ h0)(c:aP h0 nb (ptrTo bp) γ){q u:Value}(t:TabAt h0 m q γ.nodes l R Q)(D:l.length<=16)(E:1<=l.length){a:Int}(P:Fl u)(F:s<γ.nodes)(G:w<γ.nodes):Ret zM 48 [ptrTo bp,q,.agg ⟨[u,.int .i64 (s:Nat),.int .i64 (w:Nat),.int .i64 a]⟩] h0 fun _ h'=>Gr h0 h':=by
 have T:Fl q:=by obtain⟨b,_,_,_,rfl,_⟩:=t.ex;exact bA
 have S:=Si C;refine erA (n:=21) (rs:=[]) e48 ?_;simp only [BZ,seval];refine ab (bz (by exact bA)) S ?_;clear S;intro h H S v;simp only [BZ,if_false,seval];refine ab (bz (by assumption)) S ?_;clear S;intro h I S y;simp only [BZ,if_false,seval];refine ab (aW (by intro x e;cases e)) S ?_;clear S;intro h z S A;simp only [ac]at S;simp only [BZ,seval];refine ab au S ?_;clear S;intro h J S B;simp only [BZ,seval];refine az (aA S (i:=0) rfl ?_ ?_ ?_ ono) ?_
 . exact(by simp only [FA0])
 . exact(by exact dI)
 . exact Xb (lbt rfl)
 clear S;rintro h ⟨S,K⟩;clear K;simp only [LC,ac,lay,Xc,Xd,seval]at S;have j:=S.ld (b:=H) (o:=0) m3 rfl;have p:=S.ld (b:=I) (o:=0) m2 rfl;have d:=S.ld (b:=z) (o:=1) m1 rfl;have f:=S.ld (b:=z) (o:=2) m1 rfl;have k:=S.ld (b:=J) (o:=0) m0 rfl;have L:am .i64 1=1:=rfl;have M:am .i64 2=2:=rfl;have N:am .i64 3=3:=rfl;have O:am .i64 4=4:=rfl;simp only [BZ,build_ask,seval];rw [cE];simp only [BZ,se,seval];refine step_ret (asked2_ok S.ok j) ?_;intro r h g;replace S:=S.call g;replace j:=g.load j;replace p:=g.load p;replace d:=g.load d;replace f:=g.load f;replace k:=g.load k;clear g;simp only [BZ,L,seval];rw [cE];simp only [BZ,se,seval];refine step_ret (asked3_ok S.ok (c.gr S.gr) j k d F) ?_;intro r h g;replace S:=S.call g;replace j:=g.load j;replace p:=g.load p;replace d:=g.load d;replace f:=g.load f;replace k:=g.load k;clear g;simp only [BZ,M,seval];rw [cE];simp only [BZ,se,seval];refine step_ret (asked4_ok S.ok (c.gr S.gr) j k f G) ?_;intro r h g;replace S:=S.call g;replace j:=g.load j;replace p:=g.load p;replace d:=g.load d;replace f:=g.load f;replace k:=g.load k;clear g;simp only [BZ,N,seval];rw [cE];simp only [BZ,se,seval];refine step_ret (asked5_ok S.ok (c.gr S.gr) (t.gr S.gr) D E j p) ?_;intro r h g;replace S:=S.call g;simp only [BZ,O,seval];rw [cE];simp only [BZ,seval];exact S.gr
theorem Cs(a:OZ h0):eB zM 47 [ptrTo b] none h0 fun o rc h'=>(∃v,o=.ret v)/\rc=none/\Gr h0 h':=by have S:=Si a;refine enA (n:=18) (rs:=[]) e47 ?_;simp only [BZ,seval];exact bU (cy ⟨rfl,_,rfl,⟨_,rfl⟩,rfl,S.gr⟩)
theorem trun1_yes(k:OZ h0){a:List Value}(R:Row h0 b a 1)(d:a.length=4){c:Int}:eB zM 47 [ptrTo b] (some (trouV c,false)) h0 fun o rc h'=>(∃v,o=.ret v)/\rc=some (trouV c,true)/\Mo (· =b) h0 h'/\Row h' b [.int .i64 c,.int .i64 0,.slice none 0 0,.slice none 0 0] 1:=by
 have S:=St.init1 k (o:=.row a 1) R;refine enA (n:=18) (rs:=[]) e47 ?_;simp only [BZ,trouV,seval];refine ab au S ?_;clear S;intro h l S f;simp only [BZ,seval];refine az (stA S (i:=0) t104.2.1) ?_;clear S;rintro h ⟨S,g⟩;clear g;simp only [LC,ac,lay,Xc,Xd,seval]at S;simp only [BZ,S.ld (b:=l) (o:=0) m0 rfl,seval];refine az (S.store (i:=1) rfl t43.2.1 (by intro x e;cases e) rfl rfl (by rw [d];exact Xz _) ono) ?_;clear S;rintro p ⟨S,g⟩;simp only [LC]at S;have j:=S.row (b:=b) m1;have m:lay a 0 (ac (.agg ⟨[.int .i64 c,.int .i64 0,.slice none 0 0,.slice none 0 0]⟩))=[.int .i64 c,.int .i64 0,.slice none 0 0,.slice none 0 0]:=by
  match a,d with
  | [_,_,_,_],_=>rfl
 rw [m]at j;simp only [BZ];exact bU (cy ⟨rfl,_,rfl,⟨_,rfl⟩,rfl,S.fr,j⟩)
theorem got_ok(f:OZ h0){d:Int}(j:Fl vA)(k:Fl vE):Ret zM 49 [.agg ⟨[.int .i64 d,vA,vE]⟩,.int .i64 0] h0 fun r h'=>Gr h0 h'/\r=.agg ⟨[.int .i64 d,vA,vE]⟩:=by have S:=Si f;refine erA (n:=10) (rs:=[.cell 4 96]) e49 ?_;simp only [BZ,seval];refine ab (aW (by intro x e;cases e)) S ?_;clear S;intro h l S a;simp only [ac]at S;simp only [BZ];refine ab au S ?_;clear S;intro h m S c;simp only [BZ,seval];refine step_ret (pU S.ok) ?_;intro r h g;replace S:=S.call g;simp only [BZ,Xp,Xi,Xv,S.lds (b:=l) (o:=0) (n:=3) m1 (lbt rfl),seval];refine az (stA S (i:=0) t96.2.1 (by simp only [ac,XA,XD,j.2.1,k.2.1,Xa];rfl)) ?_;clear S;rintro p ⟨S,q⟩;simp only [LC,ac,lay,Xc,Xd,seval]at S;simp only [BZ,aa];refine(bD (by decide) (by simp only [aD,ah,seval];exact bI t96.1 t96.2.1 (S.lds (b:=m) (o:=0) (n:=3) m0 (lbt rfl)))).2 (cu.2 ?_);exact⟨S.gr,rfl⟩
end
def twL(N:Nat)(l:List Int)(R Q:Nat->List Int)(a:List Int)(s w:Nat):List Int:=(Xk N).map fun(v:Nat)=>wJ (iK N l.length R Q v w a) (iK N l.length R Q s v a)
def natI(l:List Nat):List Int:=l.map fun(x:Nat)=>(x:Int)
theorem Fq(ok:OZ h0){bp:Nat}{k:Gra}(G:Good k)(hn:aP h0 nb (ptrTo bp) k){W q0:Value}(t:TabAt h0 m W k.nodes l R Q)(lR: ∀i,i<l.length->(R i).length=k.nodes)(lQ: ∀i,i<l.length->(Q i).length=k.nodes)(hl:l.length<=16)(h1:1<=l.length)(fq:Fl q0)(X:s<k.nodes)(Y:w<k.nodes){a:Int}:Ret zM 13 [ptrTo bp,W,.agg ⟨[q0,.int .i64 (s:Nat),.int .i64 (w:Nat),.int .i64 a]⟩] h0 fun r h'=>Gr h0 h'/\ ∃c d vA F vE,r=.tuple #[ow c d vA F,vE]/\(∀x,(ar vA x\/ar F x\/ar vE x)->h0.n<=x)/\
  ((s =w/\c=0/\d=0/\vA=.slice none 0 0/\F=.slice none 0 0/\vE=.slice none 0 0)\/
   (s ≠w/\ ∃τ,j7 k.arcs (fun _=>true) (fun v=>(twL k.nodes l R Q (natI (iw k.nodes l.length R Q s w a)) s w).getD v 0) (kU (fun v=>(twL k.nodes l R Q (natI (iw k.nodes l.length R Q s w a)) s w).getD v 0) s w) τ/\
     aw h' 4 dz vE τ.ev/\
     ((FAR<=τ.dist/\c=20/\d=0/\vA=.slice none 0 0/\F=.slice none 0 0)\/
      (τ.dist<FAR/\c=0/\d=(τ.dist:Nat)/\aw h' 1 bM vA (qq τ)/\aw h' 1 bM F (iw k.nodes l.length R Q s w a))))):=by
 have S:=Si ok;have ft:Fl W:=by obtain⟨b,_,_,_,rfl,_⟩:=t.ex;exact bA
 have ay:=hU;refine erA (n:=59) (rs:=[.cell 6 43,.tmp 7]) e13 ?_;simp only [BZ,seval];refine ab (aW (by intro x e;cases e)) S ?_;clear S;intro h u S al;simp only [ac]at S;simp only [BZ];refine ab au S ?_;clear S;intro h y S H;simp only [BZ,Xp,Xi,Xv,S.lds (b:=u) (o:=0) (n:=4) m1 (lbt rfl),seval];refine step_ret (asked_ok S.ok (hn.gr S.gr) (t.gr S.gr) hl h1 fq X Y) ?_;intro r h g;replace S:=S.call g;by_cases z:s=w
 . subst z;simp only [BZ,Xp,Xi,Xv,S.ld (b:=u) (o:=1) m1 rfl,S.ld (b:=u) (o:=2) m1 rfl,S.lds (b:=y) (o:=0) (n:=4) m0 (lbt rfl),seval];refine az (stA S (i:=0) t43.2.1) ?_;clear S;rintro Z ⟨S,mo⟩;simp only [LC,ac,lay,Xc,Xd,seval]at S;simp only [BZ];refine df (un_fn (dh (Cs S.ok) fun o rc h' ⟨a,b,g⟩=>⟨a,b,cy ⟨rfl,?_⟩⟩));replace S:=S.call g;refine(bD (by decide) (by simp only [aD,ah,seval];exact bI t43.1 t43.2.1 (S.lds (b:=y) (o:=0) (n:=4) m0 (lbt rfl)))).2 ?_;refine(dP (by decide)).2 (cu.2 ?_);exact⟨S.gr,_,_,_,_,_,rfl,fun x I=>(by rcases I with h|h|h<;>exact h.elim),.inl ⟨rfl,rfl,rfl,rfl,rfl⟩⟩
 . have ad: ¬((s:Int)=(w:Int)):=(by omega);simp only [BZ,ad,S.ld (b:=u) (o:=1) m1 rfl,S.ld (b:=u) (o:=2) m1 rfl,S.ld (b:=u) (o:=3) m1 rfl,seval];have k6:=(S.row (b:=y) m0).lt S.ok;refine step_ret (ua S.ok (t.gr S.gr) lR lQ hl) ?_;rintro F h ⟨g,O,nB⟩;replace S:=S.call g;have la:(iw k.nodes l.length R Q s w a).length<=16:=(by unfold iw;rw [X6];omega);have R5:=S.row (b:=u) m1;have R6:=S.row (b:=y) m0;have S0:=S;have gV:=S.gr;have kV:=gV.n;have A:=S.ok;have af:=R5.load1 (o:=1) rfl;have ai:=R5.load1 (o:=2) rfl;have p5:=R5.lt A;have f1:=G.n2;simp only [BZ,seval];clear S;have S:=Si A;rename Hp=>hV;refine ao (jG (ord:=[17,0,1,2,3,4,5,6,7,8,9,10,11,12,13,14,15,16,18]) rfl rfl (by simp only [dW,ou,eX,X8,X9,Yk,Xm,Xt,cond_true,cond_false,seval];exact rfl)) (q:=1) (ps:=[(0,17),(0,14),(5,12),(3,12),(0,12)]) (by kernel_rfl) ?_;simp only [BZ,cls,seval];refine cV au S ?_;clear S;intro h C S ax J;have p9:=S.fr.n;have P:=S.gr;have K:=S.row (b:=C) m0;have q9:=K.lt S.ok;simp only [BZ,cls,P.load af,P.load ai,seval];refine bO (bTwin_ok S.ok ((t.gr gV).gr P) lR lQ (by omega) (by omega) (z9 (O.gr P)) (by rw [XR];omega) X Y) ?_;rintro vP h ⟨g,sP,nP⟩;have e1:leaves _ _ u=true:=ag g (Xu p5 p9);have e2:leaves _ _ C=true:=ag g q9;have kq:=g.n;replace S:=S.call g;simp only [BZ,cls,sP.fl,seval];refine bO (yL S.ok G ((hn.gr gV).gr S.gr) sP (by simp) X Y z) ?_;rintro r h ⟨g,xA,xE,τ,rfl,he,T,U,j⟩;have e3:leaves _ _ u=true:=ag g (Xu p5 (Xj p9 kq));have e4:leaves _ _ C=true:=ag g (Xu q9 kq);have kr:=g.n;have V:Fl xA:=U.fl;have y2:Fl xE:=T.fl;replace S:=S.call g;simp only [BZ,cls,seval];refine bO (got_ok S.ok V y2) ?_;rintro r h ⟨g,rfl⟩;have e5:leaves _ _ u=true:=ag g (by omega);have e6:leaves _ _ C=true:=ag g (by omega);have T:=T.gr g;have U:=U.gr g;replace S:=S.call g;simp only [BZ,cls,seval];refine cJ (stA S (i:=0) t96.2.1 (by simp only [ac,XA,XD,V.2.1,y2.2.1,Xa];rfl)) ?_;have aL:=S.ok;have L: ∀c,ar xA c\/ar xE c->c≠C:=fun c p e=>(by have:=j c p;omega);clear S;rintro Z ⟨S,mo⟩;simp only [LC,ac,lay,Xc,Xd,seval]at S;simp only [BZ,seval];refine⟨by simp only [aI,aO,aF,aK,aH,ne_eq,not_false_eq_true,aU,aY,aN,aJ,bw,bN,aD,Xa,ah,hZ,aq e1,an e1,aq e2,an e2,aq e3,an e3,aq e4,an e4,aq e5,an e5,aq e6,an e6,<-J,seval],?_⟩;have K:=S.row (b:=C) m0;have j0:=K.load1 (o:=0) rfl;have j1:=K.load1 (o:=1) rfl;have j2:=K.load1 (o:=2) rfl;have n9:y≠C:=fun e=>(by have:=(S0.row (b:=y) m0).lt A;omega);have M:aw Z 1 bM xA _:=U.mo mo (fun c p e=>L c (.inl p) e);have N:aw Z 4 dz xE τ.ev:=T.mo mo (fun c p e=>L c (.inr p) e);have ak:=O.gr S.gr;have k5:=(S0.row (b:=y) m0).lt A;have S1:=S0.call S.gr;clear S;have S:=S1;clear S1;simp only [BZ,j0,j2,seval];by_cases hd:τ.dist<FAR
   . have D:(τ.dist:Int)<72057594037927936:=(by omega);simp only [decide_true,D];refine step_ret (pU S.ok) ?_;intro r h4 B;replace S:=S.call B;simp only [BZ,V,O.fl,B.load j0,B.load j1,seval];refine az (stA S (i:=0) t43.2.1 (by simp only [ac,XA,XD,V.2.1,O.fl.2.1,Xa];rfl)) ?_;clear S;rintro h5 ⟨S,E⟩;simp only [LC,ac,lay,Xc,Xd,seval]at S;simp only [BZ,seval];refine df (un_fn (dh (Cs S.ok) fun o rc h' ⟨a,b,g⟩=>⟨a,b,cy ⟨rfl,?_⟩⟩));replace S:=S.call g;refine(bD (by decide) (by simp only [aD,ah,seval];exact bI t43.1 t43.2.1 (S.lds (b:=y) (o:=0) (n:=4) m0 (lbt rfl)))).2 ?_;refine(dP (by decide)).2 (cu.2 ?_);rw [if_pos hd]at M;have zE:=((N.gr B).mo E (fun c p e=>by have:=j c (.inr p);omega)).gr g;have zA:=((M.gr B).mo E (fun c p e=>by have:=j c (.inl p);omega)).gr g;have zB:=((ak.gr B).mo E (fun c p e=>by have:=nB c p;omega)).gr g;exact⟨S.gr,_,_,_,_,_,rfl,fun x I=>(by rcases I with h|h|h;(have:=j x (.inl h);omega);(have:=nB x h;omega);(have:=j x (.inr h);omega)),.inr ⟨z,τ,he,zE,.inr ⟨hd,rfl,rfl,zA,zB⟩⟩⟩
   . have D: ¬(τ.dist:Int)<72057594037927936:=(by omega);simp only [decide_false,D];refine uD (need_no S.ok) ?_;rintro x rc h4 ⟨rfl,B⟩;replace S:=S.call B;simp only [BZ];refine iH (Bc (dh (trun1_yes S.ok (S.row (b:=y) m0) rfl) fun o rc h' ⟨a,e,f,R⟩=>⟨a,_,_,e,cy ?_⟩));have gz:Gr h0 h':=(S.fr.trans f (fun i hi=>.inr (by subst hi;exact H)):Mo NoM h0 h').gr;simp only [if_true];refine(bD (by decide) (by simp only [aD,ah,seval];exact bI t43.1 t43.2.1 (R.load (o:=0) (n:=4) (lbt rfl)))).2 ?_;refine(dP (by decide)).2 (cu.2 ?_);have zE:=(N.gr B).mo f (fun c p e=>by have:=j c (.inr p);omega);exact⟨gz,_,_,_,_,_,rfl,fun x I=>(by rcases I with h|h|h;exact h.elim;exact h.elim;(have:=j x (.inr h);omega)),.inr ⟨z,τ,he,zE,.inl ⟨by omega,rfl,rfl,rfl,rfl⟩⟩⟩
structure Pm(P:Hp->Int->Int->Value->Value->Value->Prop):Prop where
 fl: ∀{h:Hp} {c d:Int} {vA vB vE:Value},P h c d vA vB vE->Fl vA/\Fl vB/\Fl vE
 mo: ∀{M:Nat->Prop} {h h':Hp} {c d:Int} {vA vB vE:Value},P h c d vA vB vE->Mo M h h'->(∀x,(ar vA x\/ar vB x\/ar vE x)-> ¬M x)->P h' c d vA vB vE
def pG(P:Hp->Int->Int->Value->Value->Value->Prop)(h0:Hp)(r:Value)(h':Hp):Prop:=Gr h0 h'/\ ∃c d a b e,r=.tuple #[ow c d a b,e]/\(∀x,(ar a x\/ar b x\/ar e x)->h0.n<=x)/\P h' c d a b e
section
variable{P:Hp->Int->Int->Value->Value->Value->Prop}
def FndR(P:Hp->Int->Int->Value->Value->Value->Prop)(h0:Hp)(r:Value)(h':Hp):Prop:=Gr h0 h'/\ ∃(D:Nat) (b a:Value),r=.tuple #[.agg ⟨[.int .i64 (D:Nat),b,a]⟩,.int .i64 0]/\Fl b/\Fl a/\(∀x,(ar b x\/ar a x)->h0.n<=x)/\(D<FAR->P h' 0 (D:Nat) b (.slice none 0 0) a)/\(FAR<=D->P h' 20 0 (.slice none 0 0) (.slice none 0 0) a)
theorem uO(r:Pm P)(K:OZ h0){A:Nat}{L M N B C:Value}(R:Row h0 b [pn,L,M,N] 1)(Z:Fl pn)(O:h0.load A 0 1=some [.func (.func g) #[] #[]])(f0:Fl B)(f3:Fl C){s w:Int}(Q: ∀h,Gr h0 h->Ret zM g [pn,.agg ⟨[.int .i64 s,.int .i64 w,.slice none 0 0,.slice none 0 0]⟩] h (FndR P h)):Ret zM 218 [ptrTo b,.agg ⟨[B,.int .i64 s,.int .i64 w,C]⟩,ptrTo A] h0 (pG P h0):=by
 have S:=Si K;have T:=R.load1 (o:=0) rfl;refine erA (n:=36) (rs:=[.cell 5 43,.tmp 6]) e218 ?_;simp only [BZ,seval];refine ab (aW (by intro x e;cases e)) S ?_;clear S;intro h u S E;simp only [ac]at S;simp only [BZ];refine ab au S ?_;clear S;intro h l S F;simp only [BZ];refine ao (jG (ord:=[14,0,1,2,3,4,5,6,7,8,9,10,11,12,13,15,16]) rfl rfl (by simp only [dW,ou,eX,X8,X9,Yk,Xm,Xt,cond_true,cond_false,seval];exact rfl)) (q:=1) (ps:=[(0,11)]) (by kernel_rfl) ?_;simp only [BZ,cls,seval];refine cV au S ?_;clear S;intro h a S G p;simp only [BZ,cls,S.gr.load O,S.gr.load T,S.ld (b:=u) (o:=1) m2 rfl,S.ld (b:=u) (o:=2) m2 rfl,seval];refine bO (Q _ S.gr) ?_;have kS:=S.fr.n;have t: ∀c∈[a,l,u],c<_:=fun c U=>S.key_lt (by simpa [keys]using U);rintro _ h ⟨g,D,vA,vE,rfl,v,V,f,H,I⟩;have J:=ag g (S.key_lt (b:=a) (by simp [keys]));replace S:=S.call g;simp only [BZ,cls,seval];refine cJ (stA S (i:=0) t96.2.1 (by simp only [ac,XA,XD,v.2.1,V.2.1,Xa];rfl)) ?_;clear S;rintro h ⟨S,m⟩;simp only [LC,ac,lay,Xc,Xd,seval]at S;have W:=fun y=>r.mo (H y) m (fun x d e=>by
  have e:x=a:=e;have:=t a m0;rcases d with h|h|h
  . have:=f x (.inl h);omega
  . exact h
  . have:=f x (.inr h);omega)
 have X:=fun y=>r.mo (I y) m (fun x d e=>by
  have e:x=a:=e;have:=t a m0;rcases d with h|h|h
  . exact h
  . exact h
  . have:=f x (.inr h);omega)
 clear H I m;simp only [BZ,cls,seval];refine⟨by simp only [aI,aO,aF,aK,aH,ne_eq,not_false_eq_true,aU,aY,aN,aJ,bw,bN,aD,Xa,ah,cL,<-p,an J,aq J,seval],?_⟩;have k:=S.ne01 (i:=0) (j:=1) rfl rfl (by decide);by_cases Y:D<FAR
 . have z: ¬(72057594037927936:Int)<=(D:Int):=(by have:=hU;omega);simp only [BZ,z,S.ld (b:=a) (o:=0) m0 rfl,seval];refine ao (av rfl) (q:=0) (ps:=[(6,7)]) (by kernel_rfl) ?_;simp only [BZ,cls,v,S.ld (b:=a) (o:=0) m0 rfl,S.ld (b:=a) (o:=1) m0 rfl,S.ld (b:=a) (o:=2) m0 rfl,seval];refine cJ (stA S (i:=1) t43.2.1 (by simp only [ac,XA,XD,v.2.1,Xa];rfl)) ?_;clear S;rintro h ⟨S,m⟩;simp only [LC,ac,lay,Xc,Xd,seval]at S;simp only [BZ,cls,aa,seval];refine⟨by simp only [aI,aO,aF,aK,aH,ne_eq,not_false_eq_true,aU,aY,aN,aJ,bw,bN,aD,Xa,ah,hZ,cS k,cS k.symm,seval],?_⟩;refine(bD (by decide) (by simp only [aD,ah,seval];exact bI t43.1 t43.2.1 (S.lds (b:=l) (o:=0) (n:=4) m1 (lbt rfl)))).2 ?_;refine(dP (by decide)).2 (cu.2 ?_);exact⟨S.gr,_,_,_,_,_,rfl,fun x d=>by
    rcases d with h|h|h
    . have:=f x (.inl h);omega
    . exact h.elim
    . have:=f x (.inr h);omega,r.mo (W Y) m (fun x d e=>by
    have e:x=l:=e;have:=t l m1;rcases d with h|h|h
    . have:=f x (.inl h);omega
    . exact h
    . have:=f x (.inr h);omega)⟩
 . have z:(72057594037927936:Int)<=(D:Int):=(by have:=hU;omega);simp only [BZ,z,S.ld (b:=a) (o:=0) m0 rfl,seval];refine ao (av rfl) (q:=0) (ps:=[(2,3)]) (by kernel_rfl) ?_;simp only [BZ,cls,S.ld (b:=a) (o:=0) m0 rfl,S.ld (b:=a) (o:=1) m0 rfl,S.ld (b:=a) (o:=2) m0 rfl,seval];refine cJ (stA S (i:=1) t43.2.1) ?_;clear S;rintro h ⟨S,m⟩;simp only [LC,ac,lay,Xc,Xd,seval]at S;simp only [BZ,cls,aa,seval];refine⟨by simp only [aI,aO,aF,aK,aH,ne_eq,not_false_eq_true,aU,aY,aN,aJ,bw,bN,aD,Xa,ah,hZ,cS k,cS k.symm,seval],?_⟩;refine(bD (by decide) (by simp only [aD,ah,seval];exact bI t43.1 t43.2.1 (S.lds (b:=l) (o:=0) (n:=4) m1 (lbt rfl)))).2 ?_;refine(dP (by decide)).2 (cu.2 ?_);exact⟨S.gr,_,_,_,_,_,rfl,fun x d=>by
    rcases d with h|h|h
    . exact h.elim
    . exact h.elim
    . have:=f x (.inr h);omega,r.mo (X (by omega)) m (fun x d e=>by
    have e:x=l:=e;have:=t l m1;rcases d with h|h|h
    . exact h
    . exact h
    . have:=f x (.inr h);omega)⟩
theorem FJ(u:Pm P)(B:OZ h0){a v w k l:Value}(R:Row h0 b [pn,a,v,w] 1)(J:Fl pn)(ft:Fl a)(K:Fl v)(L:Fl w)(M:Fl f)(N:Fl j)(O:Fl k)(Q:Fl l)(C: ∀h,Gr h0 h->Ret zM 11 [pn,a,.agg ⟨[f,j,k,l]⟩] h (pG P h)):Ret zM 151 [ptrTo b,.agg ⟨[f,j,k,l]⟩] h0 (pG P h0):=by
 have S:=Si B;have D:=R.load1 (o:=0) rfl;have m:=R.load1 (o:=1) rfl;have p:=R.load1 (o:=2) rfl;have r:=R.load1 (o:=3) rfl;refine erA (n:=18) (rs:=[.cell 4 43,.tmp 5]) e151 ?_;simp only [BZ,seval];refine ab (aW (by intro x e;cases e)) S ?_;clear S;intro h E S y;simp only [ac]at S;simp only [BZ];refine ab au S ?_;clear S;intro h s S z;simp only [BZ];refine ao (av rfl) (q:=0) (ps:=[]) (by kernel_rfl) ?_;simp only [BZ,cls,S.gr.load D,S.gr.load m,S.gr.load p,S.gr.load r,Xp,Xi,Xv,S.lds (b:=E) (o:=0) (n:=4) m1 (lbt rfl),seval];have F:=S.fr.n;have T:=S.key_lt (b:=s) (by simp [keys]);refine bO (C _ S.gr) ?_;rintro _ h ⟨g,c,d,U,V,W,rfl,A,o⟩;obtain⟨G,H,X⟩:=u.fl o;replace S:=S.call g;simp only [BZ,cls,ow,seval];refine cJ (stA S (i:=0) t43.2.1 (by simp only [ac,XA,XD,G.2.1,H.2.1,Xa];rfl)) ?_;clear S;rintro h ⟨S,I⟩;simp only [LC,ac,lay,Xc,Xd,seval]at S;simp only [BZ,cls,aa,seval];refine(bD (by decide) (by simp only [aD,ah,seval];exact bI t43.1 t43.2.1 (S.lds (b:=s) (o:=0) (n:=4) m0 (lbt rfl)))).2 ?_;refine(dP (by decide)).2 (cu.2 ?_);exact⟨S.gr,_,_,_,_,_,rfl,fun x t=>Xj F (A x t),u.mo o I (fun x t e=>by
  have e:x=s:=e;have:=A x t;omega)⟩
theorem DX(u:Pm P)(B:OZ h0){a v w k l:Value}(R:Row h0 b [pn,a,v,w] 1)(J:Fl pn)(ft:Fl a)(K:Fl v)(L:Fl w)(M:Fl f)(N:Fl j)(O:Fl k)(Q:Fl l)(C: ∀h,Gr h0 h->Ret zM 13 [pn,a,.agg ⟨[f,j,k,l]⟩] h (pG P h)):Ret zM 152 [ptrTo b,.agg ⟨[f,j,k,l]⟩] h0 (pG P h0):=by
 have S:=Si B;have D:=R.load1 (o:=0) rfl;have m:=R.load1 (o:=1) rfl;have p:=R.load1 (o:=2) rfl;have r:=R.load1 (o:=3) rfl;refine erA (n:=18) (rs:=[.cell 4 43,.tmp 5]) e152 ?_;simp only [BZ,seval];refine ab (aW (by intro x e;cases e)) S ?_;clear S;intro h E S y;simp only [ac]at S;simp only [BZ];refine ab au S ?_;clear S;intro h s S z;simp only [BZ];refine ao (av rfl) (q:=0) (ps:=[]) (by kernel_rfl) ?_;simp only [BZ,cls,S.gr.load D,S.gr.load m,S.gr.load p,S.gr.load r,Xp,Xi,Xv,S.lds (b:=E) (o:=0) (n:=4) m1 (lbt rfl),seval];have F:=S.fr.n;have T:=S.key_lt (b:=s) (by simp [keys]);refine bO (C _ S.gr) ?_;rintro _ h ⟨g,c,d,U,V,W,rfl,A,o⟩;obtain⟨G,H,X⟩:=u.fl o;replace S:=S.call g;simp only [BZ,cls,ow,seval];refine cJ (stA S (i:=0) t43.2.1 (by simp only [ac,XA,XD,G.2.1,H.2.1,Xa];rfl)) ?_;clear S;rintro h ⟨S,I⟩;simp only [LC,ac,lay,Xc,Xd,seval]at S;simp only [BZ,cls,aa,seval];refine(bD (by decide) (by simp only [aD,ah,seval];exact bI t43.1 t43.2.1 (S.lds (b:=s) (o:=0) (n:=4) m0 (lbt rfl)))).2 ?_;refine(dP (by decide)).2 (cu.2 ?_);exact⟨S.gr,_,_,_,_,_,rfl,fun x t=>Xj F (A x t),u.mo o I (fun x t e=>by
  have e:x=s:=e;have:=A x t;omega)⟩
theorem xF(w:Pm P)(B:OZ h0){a k l m:Value}(R:Row h0 b [pn,a,f,j] 1)(L:Fl pn)(ft:Fl a)(C:Fl f)(D:Fl j)(M:Fl k)(N:Fl l)(O:Fl m)(Q:Fl p)(E: ∀h,Gr h0 h->Ret zM 14 [pn,a,.agg ⟨[f,j]⟩,.agg ⟨[k,l,m,p]⟩] h (pG P h)):Ret zM 149 [ptrTo b,.agg ⟨[k,l,m,p]⟩] h0 (pG P h0):=by
 have S:=Si B;have F:=R.load1 (o:=0) rfl;have r:=R.load1 (o:=1) rfl;have s:=R.load1 (o:=2) rfl;have t:=R.load1 (o:=3) rfl;refine erA (n:=27) (rs:=[.cell 4 43,.tmp 5]) e149 ?_;simp only [BZ,seval];refine ab (aW (by intro x e;cases e)) S ?_;clear S;intro h G S y;simp only [ac]at S;simp only [BZ];refine ab au S ?_;clear S;intro h u S z;simp only [BZ];refine ao (av rfl) (q:=0) (ps:=[]) (by kernel_rfl) ?_;simp only [BZ,cls,C,D,S.gr.load F,S.gr.load r,S.gr.load s,S.gr.load t,Xp,Xi,Xv,S.lds (b:=G) (o:=0) (n:=4) m1 (lbt rfl),seval];have H:=S.fr.n;have T:=S.key_lt (b:=u) (by simp [keys]);refine bO (E _ S.gr) ?_;rintro _ h ⟨g,c,d,U,V,W,rfl,A,o⟩;obtain⟨I,J,X⟩:=w.fl o;replace S:=S.call g;simp only [BZ,cls,ow,seval];refine cJ (stA S (i:=0) t43.2.1 (by simp only [ac,XA,XD,I.2.1,J.2.1,Xa];rfl)) ?_;clear S;rintro h ⟨S,K⟩;simp only [LC,ac,lay,Xc,Xd,seval]at S;simp only [BZ,cls,aa,seval];refine(bD (by decide) (by simp only [aD,ah,seval];exact bI t43.1 t43.2.1 (S.lds (b:=u) (o:=0) (n:=4) m0 (lbt rfl)))).2 ?_;refine(dP (by decide)).2 (cu.2 ?_);exact⟨S.gr,_,_,_,_,_,rfl,fun x v=>Xj H (A x v),w.mo o K (fun x v e=>by
  have e:x=u:=e;have:=A x v;omega)⟩
def trouA(c:Int):Value:=.iface 122 (.agg ⟨[.int .i64 c]⟩)
theorem needA_no(a:OZ h0){c:Int}:eB zM 60 [.bool false,.int .i64 c] none h0 fun o rc h'=>o=.pan (trouA c)/\Gr h0 h':=by have S:=Si a;refine enA (n:=9) (rs:=[]) e60 ?_;simp only [BZ,seval];exact iH (cy ⟨rfl,S.gr⟩)
end
theorem Ad(a:k<6):jz zM 127 (.agg ⟨dg b1 b2 0++(dg b1 b2 1++(dg b1 b2 2++(dg b1 b2 3++(dg b1 b2 4++dg b1 b2 5))))⟩) (.int .i64 (k:Nat))=some (.agg ⟨dg b1 b2 k⟩):=by have:=ways_at (b1:=b1) (b2:=b2) a;have b:(dg b1 b2 0++(dg b1 b2 1++(dg b1 b2 2++(dg b1 b2 3++(dg b1 b2 4++dg b1 b2 5))))).length=18:=rfl;generalize dg b1 b2 0++(dg b1 b2 1++(dg b1 b2 2++(dg b1 b2 3++(dg b1 b2 4++dg b1 b2 5))))=L at this b;unfold jz;simp only [t127.1,iQ a,t126.2.1];unfold partOf;simp only [t126.1,t126.2.1,this,b];rw [Yw (by omega),cond_true]
theorem ask1_ok(a:OZ h0):eB zM 58 [ptrTo b2,ptrTo b] none h0 fun o rc h'=>(∃v,o=.ret v)/\rc=none/\Gr h0 h':=by have S:=Si a;refine enA (n:=19) (rs:=[]) e58 ?_;simp only [BZ,seval];exact bU (cy ⟨rfl,_,rfl,⟨_,rfl⟩,rfl,S.gr⟩)
theorem nj.at{h:Hp}{b:Nat}{I:Img}{g i:Prop}(j:nj h b I g i):ImAt h b I:=by
 obtain⟨d,n,o,p,q,k,R,l,a,c⟩:=j;refine⟨_,_,_,_,R,⟨k,l⟩,d.b,?_,?_⟩
 . cases e:I.T with
   |none=>rw [e]at a;exact a|some T=>rw [e]at a;obtain⟨⟨m,_,x⟩,y,_⟩:=a;exact⟨⟨m,x⟩,y⟩
 . cases f:I.C with
   |none=>rw [f]at c;exact c|some C=>obtain⟨m,F⟩:=C;rw [f]at c;exact c.1
theorem nj.gr{h h':Hp}{b:Nat}{I:Img}{f i:Prop}(k:nj h b I f i)(g:Gr h h'):nj h' b I f i:=by
 obtain⟨c,l,n,o,p,q,R,r,s,a⟩:=k;refine⟨c,l,n,o,p,q,R.gr g,r.gr g,s.mo (M:=NoM) g.fr (fun _ h=>h.elim),?_⟩;cases j:I.C with
 |none=>rw [j]at a;exact a| some C=>
   obtain⟨m,F⟩:=C;rw [j]at a;obtain⟨x,t,u,v,w,y,z,A,B,D,d,e,E,G,H⟩:=a;exact⟨x.gr g,t,u,v,w,y,z,A,B,D,d.gr g,e,E,G.gr g,H⟩
theorem ask1_yes(j:OZ h0){xs ys:List Value}(k:Has h0 b (.row xs 1))(l:Has h0 c (.row ys 1))(f:xs.length=4)(m:ys.length=1)(a:b≠c){e:Int}:eB zM 58 [ptrTo b,ptrTo c] (some (trouA e,false)) h0 fun o rc h'=>(∃v,o=.ret v)/\rc=some (trouA e,true)/\Mo (fun x=>x=b\/x=c) h0 h'/\Row h' b [.int .i64 e,.int .i64 0,.slice none 0 0,.slice none 0 0] 1/\Row h' c [.slice none 0 0] 1:=by
 have S:St (fun x=>x=b\/x=c) h0 h0 [(b,.row xs 1),(c,.row ys 1)] []:=((St.init j).push (.inr (.inr rfl)) l (by simp [keys])).push (.inr (.inl rfl)) k (by simp [keys,a]);obtain⟨y,rfl⟩: ∃y,ys=[y]:=List.length_eq_one_iff.1 m;refine enA (n:=19) (rs:=[]) e58 ?_;simp only [BZ,trouA,seval];refine ab au S ?_;clear S;intro h p S g;simp only [BZ,seval];refine az (stA S (i:=0) t122.2.1) ?_;clear S;rintro h ⟨S,d⟩;clear d;simp only [LC,ac,lay,Xc,Xd,seval]at S;simp only [BZ,S.ld (b:=p) (o:=0) m0 rfl,seval];refine az (S.store (i:=1) rfl t43.2.1 (by intro x e;cases e) rfl rfl (by rw [f];exact Xz _) ono) ?_;clear S;rintro q ⟨S,d⟩;simp only [LC]at S;have r:lay xs 0 (ac (.agg ⟨[.int .i64 e,.int .i64 0,.slice none 0 0,.slice none 0 0]⟩))=[.int .i64 e,.int .i64 0,.slice none 0 0,.slice none 0 0]:=by
  match xs,f with
  | [_,_,_,_],_=>rfl
 rw [r]at S;simp only [BZ,if_false,seval];refine az (aA S (i:=2) rfl t44.2.2.1 bH (Xb (lbt rfl)) ono) ?_;clear S;rintro q ⟨S,d⟩;simp only [LC]at S;simp only [BZ];exact bU (cy ⟨rfl,_,rfl,⟨_,rfl⟩,rfl,S.fr,S.row m1,S.row m2⟩)
theorem vG(f:OZ h0){i:Nat}{k l:Value}{a:Gra}(R:Row h0 b [ptrTo c,j,k,l] 1)(m:h0.load b2 0 1=some [ptrTo b])(p:aP h0 i (ptrTo c) a){s:Int}:aQ zM 59 [.int .i64 s,ptrTo b2] h0 (.bool (decide (0<=s/\s<a.nodes))):=by
 have S:=Si f;have q:=R.load1 (o:=0) rfl;by_cases d:(0:Int)<=s
 . have e:decide (0<=s/\s<(a.nodes:Int))=decide (s<(a.nodes:Int)):=decide_eq_decide.2 (by omega);rw [e];refine erA (n:=15) (rs:=[.tmp 3]) e59 ?_;simp only [BZ,m,q,d,seval];refine ae (bC S.ok (p.gr S.gr)) ?_;intro h g;replace S:=S.call g;simp only [BZ,aa,seval];exact S.gr
 . have e:decide (0<=s/\s<(a.nodes:Int))=false:=decide_eq_false (by omega);rw [e];refine erA (n:=15) (rs:=[.tmp 3]) e59 ?_;simp only [BZ,aa,d,seval];exact S.gr
def PtrB(p:Value)(t:Bool):Prop:=(t=true/\ ∃x,p=ptrTo x)\/(t=false/\p=.pointer none)
theorem hasB_ok(p:OZ h0){g i q:Value}{x y j k:Bool}(R:Row h0 b [pn,g,i,q] 1)(r:PtrB g j)(l:PtrB i k)(v:Fl f):aQ zM 62 [.agg ⟨wayV x y f⟩,ptrTo b] h0 (.bool ((!x||j)&&(!y||k))):=by
 have S:=Si p;have s:=R.load1 (o:=1) rfl;have t:=R.load1 (o:=2) rfl;refine erA (n:=27) (rs:=[.tmp 4]) e62 ?_;simp only [BZ,wayV,seval];refine ab (aW (by intro x e;cases e)) S ?_;clear S;intro h d S m;simp only [ac]at S;have a:=S.gr.load s;have c:=S.gr.load t;rcases r with⟨rfl,w,rfl⟩|⟨rfl,rfl⟩
 . rcases l with⟨rfl,u,rfl⟩|⟨rfl,rfl⟩
   . cases x
     all_goals cases y
     all_goals
      simp only [BZ,aa,a,c,S.ld (b:=d) (o:=0) m0 rfl,S.ld (b:=d) (o:=1) m0 rfl,seval];exact⟨rfl,S.gr⟩
   . cases x
     all_goals cases y
     all_goals
      simp only [BZ,aa,a,c,S.ld (b:=d) (o:=0) m0 rfl,S.ld (b:=d) (o:=1) m0 rfl,seval];exact⟨rfl,S.gr⟩
 . rcases l with⟨rfl,u,rfl⟩|⟨rfl,rfl⟩
   . cases x
     all_goals cases y
     all_goals
      simp only [BZ,aa,a,c,S.ld (b:=d) (o:=0) m0 rfl,S.ld (b:=d) (o:=1) m0 rfl,seval];exact⟨rfl,S.gr⟩
   . cases x
     all_goals cases y
     all_goals
      simp only [BZ,aa,a,c,S.ld (b:=d) (o:=0) m0 rfl,S.ld (b:=d) (o:=1) m0 rfl,seval];exact⟨rfl,S.gr⟩
def mI(N:Nat)(a b:Bool)(k s w:Int):Int:=
 if¬(0<=k/\k<6)then 16 else if¬(0<=s/\s<N)then 17 else if¬(0<=w/\w<N)then 18 else if((!tw k.toNat||a)&&(!cw k.toNat||b))=true then 0 else 19
theorem askAny_ok{P:Hp->Int->Int->Value->Value->Value->Prop}(U:Pm P)(ok:OZ h0){oT oF:Prop}(im:nj h0 b I oT oF){k s w a:Int}(G: ∀(l p t:Nat),k=l->s=p->w=t->l<6->p<I.g.nodes->t<I.g.nodes->(tw l=true->I.T.isSome=true)->(cw l=true->I.C.isSome=true)->p≠t-> ∀h b1 b2,Gr h0 h->h.load b1 0 1=some [.func (.func 45) #[] #[]]->h.load b2 0 1=some [.func (.func 50) #[] #[]]-> ∃g x c,fw b1 b2 l=.func (.func g) x c/\Ret zM g (x.toList++[ptrTo b,.agg ⟨[.int .i64 k,.int .i64 s,.int .i64 w,.int .i64 a]⟩]++c.toList) h (pG P h)):Ret zM 15 [ptrTo b,.agg ⟨[.int .i64 k,.int .i64 s,.int .i64 w,.int .i64 a]⟩] h0 fun r h'=>Gr h0 h'/\ ∃c d vA H vE,r=.tuple #[ow c d vA H,vE]/\Fl vA/\Fl H/\Fl vE/\
  (((mI I.g.nodes I.T.isSome I.C.isSome k s w≠0\/s=w)/\c=mI I.g.nodes I.T.isSome I.C.isSome k s w/\d=0/\vA=.slice none 0 0/\H=.slice none 0 0/\vE=.slice none 0 0)\/
   (mI I.g.nodes I.T.isSome I.C.isSome k s w=0/\s≠w/\P h' c d vA H vE)):=by
 have S:=Si ok;have Y:=im;obtain⟨Z,bp,pt,pc,pf,nb,R,hn,V,W⟩:=Y;have n1:=Z.n1;have ad:PtrB pt I.T.isSome:=by
  cases eT:I.T with
  |none=>rw [eT]at V;exact .inr ⟨rfl,V⟩|some T=>rw [eT]at V;obtain⟨⟨_,_,x⟩,_⟩:=V;obtain⟨y,_,_,_,e,_⟩:=x.ex;exact .inl ⟨rfl,y,e⟩
 have af:PtrB pc I.C.isSome:=by
  cases eC:I.C with
  |none=>rw [eC]at W;exact .inr ⟨rfl,W.1⟩|some C=>rw [eC]at W;obtain⟨_,_,_,y,_,_,_,_,e,_⟩:=W;exact .inl ⟨rfl,y,e⟩
 generalize I.T.isSome=u at*
 generalize I.C.isSome=v at*
 refine erA (n:=53) (rs:=[.cell 4 43,.cell 5 44]) e15 ?_;simp only [BZ,seval];refine ab (aW (by intro x e;cases e)) S ?_;clear S;intro h b2 S ay;simp only [ac]at S;simp only [BZ,if_false,seval];refine ab (aW (by intro x e;cases e)) S ?_;clear S;intro h m S aL;simp only [ac]at S;simp only [BZ];refine ab au S ?_;clear S;intro h D S J;simp only [BZ];refine ab au S ?_;clear S;intro h b5 S K;simp only [BZ,S.ld (b:=b2) (o:=0) m3 rfl,seval];refine ae (yw S.ok (im.at.gr S.gr)) ?_;intro h g;replace S:=S.call g;simp only [BZ,seval];refine ae (rz S.ok) ?_;intro h g;replace S:=S.call g;by_cases c0:(0:Int)<=k;rotate_left;have E:mI I.g.nodes u v k s w=16:=if_pos (by omega);simp only [BZ,c0,S.ld (b:=m) (o:=0) m2 rfl,seval]
 rotate_right
 by_cases c6:k<6;rotate_left;have E:mI I.g.nodes u v k s w=16:=if_pos (by omega);simp only [BZ,c0,c6,S.ld (b:=m) (o:=0) m2 rfl,seval]
 rotate_right
 simp only [BZ,c0,c6,S.ld (b:=m) (o:=0) m2 rfl,seval];refine ae (rz S.ok) ?_;intro h g;replace S:=S.call g;simp only [BZ,S.ld (b:=m) (o:=1) m2 rfl,seval];refine ae (vG S.ok (R.gr S.gr) (S.ld m3 rfl) (hn.gr S.gr) (s:=s)) ?_;intro h g;replace S:=S.call g;by_cases hs:0<=s/\s<(I.g.nodes:Int);rotate_left;have E:mI I.g.nodes u v k s w=17:=by unfold mI;rw [if_neg (by omega),if_pos hs]
 have d1:=decide_eq_false hs;simp only [BZ,d1,seval]
 rotate_right
 have d1:=decide_eq_true hs;simp only [BZ,d1,seval];refine ae (rz S.ok) ?_;intro h g;replace S:=S.call g;simp only [BZ,S.ld (b:=m) (o:=2) m2 rfl,seval];refine ae (vG S.ok (R.gr S.gr) (S.ld m3 rfl) (hn.gr S.gr) (s:=w)) ?_;intro h g;replace S:=S.call g;by_cases hw:0<=w/\w<(I.g.nodes:Int);rotate_left;have E:mI I.g.nodes u v k s w=18:=by unfold mI;rw [if_neg (by omega),if_neg (by omega),if_pos hw]
 have d2:=decide_eq_false hw;simp only [BZ,d2,seval]
 rotate_right
 have d2:=decide_eq_true hw;simp only [BZ,d2,seval];refine ae (rz S.ok) ?_;intro h g;replace S:=S.call g;obtain⟨l,rfl⟩: ∃n:Nat,k=n:=⟨k.toNat,by omega⟩;obtain⟨p,rfl⟩: ∃n:Nat,s=n:=⟨s.toNat,by omega⟩;obtain⟨t,rfl⟩: ∃n:Nat,w=n:=⟨w.toNat,by omega⟩;have L:l<6:=by omega
 have X:mI I.g.nodes u v (l:Nat) (p:Nat) (t:Nat)=if((!tw l||u)&&(!cw l||v))=true then 0 else 19:=by unfold mI;rw [if_neg (by omega),if_neg (by omega),if_neg (by omega)];rfl
 simp only [BZ];refine ao (jG (ord:=[4,0,1,2,3,5]) rfl rfl (by simp only [dW,ou,eX,X8,X9,Yk,Xm,Xt,cond_true,cond_false,seval];exact rfl)) (q:=1) (ps:=[(1,3),(0,1)]) (by kernel_rfl) ?_;simp only [BZ,cls,seval];refine cV au S ?_;clear S;intro h F S a0 M;simp only [BZ,cls,seval];have k3:=S.key_lt (b:=m) (by simp [keys]);refine bO (all_ok S.ok) ?_;have k7:=S.key_lt (b:=F) (by simp [keys]);rintro _ h ⟨g,N,O,rfl,A,B,z1,z2⟩;have v3:=ag g k3;have v7:=ag g k7;replace S:=S.call g;simp only [BZ,cls,Ad L,S.ld (b:=m) (o:=0) m3 rfl,seval];refine cJ (stA S (i:=0) t126.2.1 (by simp only [ac,dg,wayV,XA,XD,fw_fl.2.1,Xa];rfl)) ?_;have ai:=aV S.ok A;have ak:=aV S.ok B;clear S;rintro h ⟨S,z⟩;simp only [dg,wayV]at S;simp only [LC,ac,lay,Xc,Xd,seval]at S;replace A:h.load N 0 1=some [.func (.func 45) #[] #[]]:=by have:=z.get N ai (fun e=>by have e:N=F:=e;omega);rw [<-A];simp only [Hp.load,this]
 replace B:h.load O 0 1=some [.func (.func 50) #[] #[]]:=by have:=z.get O ak (fun e=>by have e:O=F:=e;omega);rw [<-B];simp only [Hp.load,this]
 clear z;simp only [BZ,seval];refine⟨by simp only [aI,aO,aF,aK,aH,ne_eq,not_false_eq_true,aU,aY,aN,aJ,bw,bN,aD,Xa,ah,cL,<-M,aq v3,an v3,aq v7,an v7,seval],?_⟩;simp only [BZ,Xp,Xi,Xv,S.lds (b:=F) (o:=0) (n:=3) m0 (lbt rfl),S.ld (b:=b2) (o:=0) m4 rfl,seval];have hH:=hasB_ok (f:=fw N O l) (x:=tw l) (y:=cw l) S.ok (R.gr S.gr) ad af fw_fl;unfold wayV at hH;refine ae hH ?_;intro h g;replace A:=g.load A;replace B:=g.load B;replace S:=S.call g;clear g hH;by_cases hB:((!tw l||u)&&(!cw l||v))=true;rotate_left;have E:mI I.g.nodes u v (l:Nat) (p:Nat) (t:Nat)=19:=by rw [X,if_neg hB]
 rw [eq_false_of_ne_true hB];replace S:=S.drop1;simp only [BZ,seval]
 rotate_right
 rw [if_pos hB]at X;rw [hB];simp only [BZ,seval];refine ae (rz S.ok) ?_;intro h g;replace A:=g.load A;replace B:=g.load B;replace S:=S.call g;by_cases Q:p=t
 . have c1:((p:Int)=(t:Int))=True:=eq_true (by omega);subst Q;simp only [BZ,Xp,Xi,Xv,S.ld (b:=m) (o:=1) m3 rfl,S.ld (b:=m) (o:=2) m3 rfl,S.lds (b:=D) (o:=0) (n:=4) m2 (lbt rfl),seval];refine az (stA S (i:=2) t43.2.1) ?_;clear S;rintro h ⟨S,z⟩;simp only [LC,ac,lay,Xc,Xd,seval]at S;simp only [BZ,seval];refine az (aA S (i:=1) rfl t44.2.2.1 bH (Xb (lbt rfl)) ono) ?_;clear S;rintro h ⟨S,z⟩;simp only [LC,ac,lay,Xc,Xd,seval]at S;simp only [BZ];refine df (un_fn (dh (ask1_ok S.ok) fun _ _ h' ⟨a,e,g⟩=>⟨a,e,cy ⟨rfl,?_⟩⟩));replace S:=S.call g;refine(bD (by decide) (by simp only [aD,ah,seval];exact bI t43.1 t43.2.1 (S.lds (b:=D) (o:=0) (n:=4) m2 (lbt rfl)))).2 ?_;refine(bD (by decide) (by simp only [aD,ah,seval];exact uT t44.2.1 (S.ld m1 rfl))).2 ?_;exact cu.2 ⟨S.gr,0,0,_,_,_,rfl,bH,bH,bH,.inl ⟨.inr (by trivial),X.symm,rfl,rfl,rfl,rfl⟩⟩
 . have c1:((p:Int)=(t:Int))=False:=eq_false (by omega);simp only [BZ,c1,Xp,Xi,Xv,S.ld (b:=m) (o:=1) m3 rfl,S.ld (b:=m) (o:=2) m3 rfl,S.ld (b:=F) (o:=2) m0 rfl,S.ld (b:=b2) (o:=0) m4 rfl,S.lds (b:=m) (o:=0) (n:=4) m3 (lbt rfl),seval];have kk: ∀c∈[F,b5,D,m,b2],c<_:=fun c hc=>S.key_lt (by simpa [keys]using hc);obtain⟨al,ax⟩:(tw l=true->u=true)/\(cw l=true->v=true):=(by revert hB;cases tw l<;>cases cw l<;>cases u<;>cases v<;>simp);obtain⟨g,x,c,ef,hr⟩:=G l p t rfl rfl rfl L (by omega) (by omega) al ax Q _ N O S.gr A B;simp only [BZ,ef];refine step_ret hr ?_;rintro _ h ⟨g,c,d,vA,H,vE,rfl,nV,o⟩;obtain⟨fA,fB,fE⟩:=U.fl o;replace S:=S.call g;simp only [BZ,ow,seval];refine az (stA S (i:=2) t43.2.1 (by simp only [ac,XA,XD,fA.2.1,fB.2.1,Xa];rfl)) ?_;clear S;rintro h ⟨S,z⟩;simp only [LC,ac,lay,Xc,Xd,seval]at S;replace o:=U.mo o z (fun x hx e=>by have e:x=D:=e;have:=nV x hx;have:=kk D m2;omega);simp only [BZ,seval];refine az (aA S (i:=1) rfl t44.2.2.1 fE (Xb (lbt rfl)) ono) ?_;clear S;rintro h ⟨S,z⟩;simp only [LC,ac,lay,Xc,Xd,seval]at S;replace o:=U.mo o z (fun x hx e=>by have e:x=b5:=e;have:=nV x hx;have:=kk b5 m1;omega);simp only [BZ];refine df (un_fn (dh (ask1_ok S.ok) fun _ _ h' ⟨a,e,g⟩=>⟨a,e,cy ⟨rfl,?_⟩⟩));replace S:=S.call g;refine(bD (by decide) (by simp only [aD,ah,seval];exact bI t43.1 t43.2.1 (S.lds (b:=D) (o:=0) (n:=4) m2 (lbt rfl)))).2 ?_;refine(bD (by decide) (by simp only [aD,ah,seval];exact uT t44.2.1 (S.ld m1 rfl))).2 ?_;exact cu.2 ⟨S.gr,_,_,_,_,_,rfl,fA,fB,fE,.inr ⟨X,by omega,U.mo o g.fr (fun _ _ h=>h)⟩⟩
 all_goals
  refine uD (needA_no S.ok) ?_;rintro _ rc h4 ⟨rfl,g4⟩;replace S:=S.call g4;simp only [BZ];refine iH (Bc (dh (ask1_yes S.ok (S.own _ m1).2 (S.own _ m0).2 rfl rfl (S.ne01 (i:=1) (j:=0) rfl rfl (by decide))) fun o rc h' ⟨a,e,f,R4,R5⟩=>⟨a,_,_,e,cy ?_⟩));have gz:Gr h0 h':=(S.fr.trans f (fun i hi=>.inr (by rcases hi with rfl|rfl;exact J;exact K)):Mo NoM h0 h').gr;simp only [if_true];refine(bD (by decide) (by simp only [aD,ah,seval];exact bI t43.1 t43.2.1 (R4.load (o:=0) (n:=4) (lbt rfl)))).2 ?_;refine(bD (by decide) (by simp only [aD,ah,seval];exact uT t44.2.1 (R5.load1 (o:=0) rfl))).2 ?_;exact cu.2 ⟨gz,_,_,_,_,_,rfl,bH,bH,bH,.inl ⟨.inl (by rw [E];decide),by rw [E],rfl,rfl,rfl,rfl⟩⟩
def tK(h:Hp)(D:Nat)(b a:List Nat)(c d:Int)(vA e:Value):Prop:=
 (FAR<=D/\c=20/\d=0/\vA=.slice none 0 0/\e=.slice none 0 0)\/(D<FAR/\c=0/\d=(D:Nat)/\aw h 1 bM vA b/\aw h 1 bM e a)
theorem tK.fl{h:Hp}{D:Nat}{b a:List Nat}{c d:Int}{vA e:Value}(t:tK h D b a c d vA e):Fl vA/\Fl e:=by
 rcases t with⟨_,_,_,rfl,rfl⟩|⟨_,_,_,x,y⟩
 . exact⟨bH,bH⟩
 . exact⟨x.fl,y.fl⟩
theorem tK.mo{M:Nat->Prop}{h h':Hp}{D:Nat}{f e:List Nat}{c d:Int}{vA i:Value}(t:tK h D f e c d vA i)(g:Mo M h h')(j: ∀x,(ar vA x\/ar i x)-> ¬M x):tK h' D f e c d vA i:=
 t.imp (fun h=>h) fun⟨a,b,c,x,y⟩=>⟨a,b,c,x.mo g fun z h=>j z (.inl h),y.mo g fun z h=>j z (.inr h)⟩
def AnsS(e:Gra)(als:List Bool)(pis:List Int)(a:List Nat)(s w:Nat)(h:Hp)(c d:Int)(vA f vE:Value):Prop:=
 ∃b,Ends e.arcs (alF als) (piF pis) w (jY (piF pis) s) b/\aw h 4 iM vE b.ev/\tK h b.dist b.arcs a c d vA f
def AnsD(e:Gra)(pis:List Int)(a:List Nat)(s w:Nat)(h:Hp)(c d:Int)(vA f vE:Value):Prop:=
 ∃b,j7 e.arcs (fun _=>true) (fun v=>pis.getD v 0) (kU (fun v=>pis.getD v 0) s w) b/\aw h 4 dz vE b.ev/\tK h b.dist (qq b) a c d vA f
theorem ansS_pm{c:Gra}{a:List Nat}:Pm (AnsS c als pis a s w):=
 ⟨fun⟨_,_,e,t⟩=>⟨t.fl.1,t.fl.2,e.fl⟩,fun⟨d,x,e,t⟩ g b=>⟨d,x,e.mo g (fun z h=>b z (.inr (.inr h))),t.mo g fun z h=>b z (h.elim .inl fun h=>.inr (.inl h))⟩⟩
theorem ansD_pm{c:Gra}{a:List Nat}:Pm (AnsD c pis a s w):=
 ⟨fun⟨_,_,e,t⟩=>⟨t.fl.1,t.fl.2,e.fl⟩,fun⟨d,x,e,t⟩ g b=>⟨d,x,e.mo g (fun z h=>b z (.inr (.inr h))),t.mo g fun z h=>b z (h.elim .inl fun h=>.inr (.inl h))⟩⟩
def bestP(b:Gra)(l:List Int)(R Q:Nat->List Int)(s w:Nat)(a:Int):List Int:=(Xk b.nodes).map fun(v:Nat)=>iK b.nodes l.length R Q v w ((iw b.nodes l.length R Q s w a).map fun(x:Nat)=>(x:Int))
def onL(a:Gra)(b:Nat->Nat)(r:Nat):List Bool:=(Xk a.arcs.length).map (gX b ((a.arcs.length+7)/8) r)
def qJ(b:Gra)(l:List Int)(R Q:Nat->List Int)(c d:Nat->Nat)(k:Nat)(s w:Nat)(a:Int):Hp->Int->Int->Value->Value->Value->Prop:=
 match k with
 |0=>AnsS b [] [] [] s w|1=>AnsD b [] [] s w|2=>AnsS b [] (bestP b l R Q s w a) (iw b.nodes l.length R Q s w a) s w|3=>AnsD b (twL b.nodes l R Q (natI (iw b.nodes l.length R Q s w a)) s w) (iw b.nodes l.length R Q s w a) s w|4=>AnsS b (onL b d (c w)) [] [] s w|_=>AnsS b (onL b d (c w)) (bestP b l R Q s w a) (iw b.nodes l.length R Q s w a) s w
theorem pJ{b:Gra}{c d:Nat->Nat}{a:Int}:Pm (qJ b l R Q c d k s w a):=by
 unfold qJ
 split<;>first|exact ansS_pm|exact ansD_pm
structure ImP(h:Hp)(b:Nat)(γ:Gra)(tb cb:Bool)(l:List Int)(R Q:Nat->List Int)(cf Bt:Nat->Nat)(Mc:Nat):Prop where
 good:Good γ
 ex: ∃bp nb pt pc pf,Row h b [ptrTo bp,pt,pc,pf] 1/\aP h nb (ptrTo bp) γ/\(tb=true-> ∃bt nt,pt=ptrTo bt/\TabAt h nt pt γ.nodes l R Q)/\(tb=false->pt=.pointer none)/\
  (cb=true-> ∃mb ck fp fb m,pc=ptrTo ck/\pf=ptrTo fp/\ia h mb pc γ.nodes m cf/\ic m+1=((Mc:Nat):Int)/\eJ h fp fb Mc γ.arcs.length ((γ.arcs.length+7)/8) Bt)/\(cb=false->pc=.pointer none/\pf=.pointer none)
 tab:tb=true->1<=l.length/\iZ γ.nodes l/\(∀i,i<l.length->(R i).length=γ.nodes)/\ ∀i,i<l.length->(Q i).length=γ.nodes
 no:tb=false->l=[]
 l4:l.length<=4
 cel:Mc<=100
theorem ImP.gr{h h':Hp}{b:Nat}{d:Gra}{f i:Bool}{l:List Int}{R Q:Nat->List Int}{j k:Nat->Nat}{n:Nat}(o:ImP h b d f i l R Q j k n)(g:Gr h h'):ImP h' b d f i l R Q j k n:=by
 obtain⟨a,⟨p,q,r,s,u,v,w,t1,t2,y,z⟩,x⟩:=o;refine⟨a,⟨p,q,r,s,u,v.gr g,w.gr g,fun e=>?_,t2,fun e=>?_,z⟩, ‹_›, ‹_›, ‹_›, ‹_›⟩
 . obtain⟨A,B,e,t⟩:=t1 e;exact⟨A,B,e,t.gr g⟩
 . obtain⟨C,D,E,F,m,G,H,c,I,J⟩:=y e;exact⟨C,D,E,F,m,G,H,c.gr g,I,J.gr g⟩
theorem AJ{T:List (List Int)}(a:T.length=n)(h: ∀r∈T,r.length=N/\ ∀x∈r,0<=x/\x<=72057594037927936): ∀i,i<n->(kX T i).length=N:=by
 intro i b;have e:kX T i=T[i]'(by omega):=by unfold kX;rw [Xl,Xg (by omega),Xx]
 rw [e];exact(h _ (XC _)).1
theorem nj.opened{k v:Prop}(M:nj h b I k v): ∃l R Q c d a,ImP h b I.g I.T.isSome I.C.isSome l R Q c d a/\(k->R=toR I.g l/\Q=frR I.g l)/\(v->I.C.isSome=true->OkB I.g c ((I.g.arcs.length+7)/8) a 0 d):=by
 obtain⟨w,N,n,p,x,O,R,P,q,r⟩:=M;obtain⟨l,g,j,t1,t2,t3,t4,t5,t6⟩: ∃l g j,(I.T.isSome=true-> ∃s t,n=ptrTo s/\TabAt h t n I.g.nodes l g j)/\(I.T.isSome=false->n=.pointer none)/\(I.T.isSome=true->1<=l.length/\iZ I.g.nodes l/\(∀i,i<l.length->(g i).length=I.g.nodes)/\ ∀i,i<l.length->(j i).length=I.g.nodes)/\(I.T.isSome=false->l=[])/\l.length<=4/\(k->g=toR I.g l/\j=frR I.g l):=by
  cases H:I.T with
  | none=>
    rw [H]at q;exact⟨[],toR I.g [],frR I.g [],fun e=>(by cases e),fun _=>q,fun e=>(by cases e),fun _=>rfl,Xe _,fun _=>⟨rfl,rfl⟩⟩
  | some T=>
    rw [H]at q;obtain⟨⟨t,_,y⟩,f,J,K,own⟩:=q;obtain⟨s,_,_,_,e,_⟩:=id y.ex;by_cases o:k
    . have own:=own o;exact⟨T.l,toR I.g T.l,frR I.g T.l,fun _=>⟨s,t,e,y.congr (fun i z=>(own i z).1) (fun i z=>(own i z).2)⟩,fun e=>(by cases e),fun _=>⟨f.l1,K,fun i _=>toR_len,fun i _=>frR_len⟩,fun e=>(by cases e),J,fun _=>⟨rfl,rfl⟩⟩
    . exact⟨T.l,kX T.to,kX T.fr,fun _=>⟨s,t,e,y⟩,fun e=>(by cases e),fun _=>⟨f.l1,K,AJ f.to f.rTo,AJ f.fr f.rFr⟩,fun e=>(by cases e),J,fun h=>absurd h o⟩
 obtain⟨c,d,a,S,U,V,W⟩: ∃c d a,(I.C.isSome=true-> ∃A B u D m,p=ptrTo B/\x=ptrTo u/\ia h A p I.g.nodes m c/\ic m+1=((a:Nat):Int)/\eJ h u D a I.g.arcs.length ((I.g.arcs.length+7)/8) d)/\(I.C.isSome=false->p=.pointer none/\x=.pointer none)/\a<=100/\(v->I.C.isSome=true->OkB I.g c ((I.g.arcs.length+7)/8) a 0 d):=by
  cases L:I.C with
  | none=>
    rw [L]at r;exact⟨fun _=>0,fun _=>0,0,fun e=>(by cases e),fun _=>r,Xe _,fun _ e=>(by cases e)⟩
  | some C=>
    rw [L]at r;obtain⟨m',F⟩:=C;obtain⟨_,A,c,B,u,D,a,d,X,Y,E,G,Z,bm,oB⟩:=r;exact⟨c,d,a,fun _=>⟨A,B,u,D,_,X,Y,E,G,bm⟩,fun e=>(by cases e),Z,fun o _=>oB o⟩
 exact⟨l,g,j,c,d,a,⟨w,⟨N,O,n,p,x,R,P,t1,t2,S,U⟩,t3,t4,t5,V⟩,t6,W⟩
theorem mcell_lt{f:Nat}{m:List Int}{d:Nat->Nat}(a:ia h0 f p N m d)(g:ic m+1=((c:Nat):Int)): ∀v,v<N->d v<c:=fun v h=>by
 have i:=a.len;have j:=a.val v h;have b:v<m.length:=by omega
 have e:m.getD v 0=m[v]:=by rw [Xl,Xg b,Xx]
 have:=lmax_ge (XC b);omega
section
variable{h0:Hp}{b b1 b2:Nat}{γ:Gra}{tb cb:Bool}{l:List Int}{R Q:Nat->List Int}{cf Bt:Nat->Nat}{Mc:Nat}
theorem altK_ok{j:Nat}{k m:Value}(o:OZ h0)(e:Good γ)(p:aP h0 n (ptrTo j) γ)(T:TabAt h0 nt k γ.nodes l R Q)(q: ∀i,i<l.length->(R i).length=γ.nodes)(u: ∀i,i<l.length->(Q i).length=γ.nodes)(M:1<=l.length)(N:l.length<=4)(v:Fl m){a:Int}(O:s<γ.nodes)(P:w<γ.nodes)(x:s≠w):Ret zM 11 [ptrTo j,k,.agg ⟨[m,.int .i64 (s:Nat),.int .i64 (w:Nat),.int .i64 a]⟩] h0 (pG (qJ γ l R Q cf Bt 2 s w a) h0):=by
 have y:mQ γ.nodes γ.nodes l.length (s:Int) (w:Int)=0:=by unfold mQ;rw [if_neg (by omega),if_neg (by omega),if_pos ⟨by omega,rfl⟩]
 refine(FM (f:=s) (t:=w) (a:=a) o e p (.inl ⟨_,T,q,u⟩) (by omega) v).mono ?_;rintro r S ⟨g,c,d,z,A,B,rfl,C,⟨h,_⟩|⟨_,D,E,F,G,U,V,H,I,_,J,K,L⟩⟩
 . rw [y]at h;rcases h with h|h
   . exact absurd rfl h
   . omega
 . obtain rfl:E=s:=(by omega);obtain rfl:F=w:=(by omega);exact⟨g,c,d,z,A,B,rfl,C,G,J,K,L⟩
theorem twinK_ok{m n:Value}(p:OZ h0)(f:Good γ)(q:aP h0 o (ptrTo k) γ)(T:TabAt h0 nt m γ.nodes l R Q)(t: ∀i,i<l.length->(R i).length=γ.nodes)(u: ∀i,i<l.length->(Q i).length=γ.nodes)(v:1<=l.length)(H:l.length<=4)(x:Fl n){a:Int}(y:s<γ.nodes)(z:w<γ.nodes)(h:s≠w):Ret zM 13 [ptrTo k,m,.agg ⟨[n,.int .i64 (s:Nat),.int .i64 (w:Nat),.int .i64 a]⟩] h0 (pG (qJ γ l R Q cf Bt 3 s w a) h0):=by
 refine(Fq p f q T t u (by omega) v x y z (a:=a)).mono ?_;rintro r I ⟨g,c,d,A,B,C,rfl,D,j⟩;rcases j with⟨e,_⟩|⟨_,E,F,G,j⟩
 . exact absurd e h
 . exact⟨g,c,d,A,B,C,rfl,D,E,F,G,j⟩
theorem Cn{L q:Nat}{x:Value}(M:OZ h0)(j:Good γ)(y:aP h0 L (ptrTo v) γ)(T:TabQ h0 x q l R Q)(Z:l.length<=4){A:Nat}{m:List Int}(e:ia h0 N (ptrTo z) γ.nodes m cf)(n:ic m+1=((Mc:Nat):Int))(P:Mc<=100)(B:eJ h0 A O Mc γ.arcs.length ((γ.arcs.length+7)/8) Bt)(C:k=4\/k=5)(S:k=5->q=γ.nodes/\1<=l.length){a:Int}(hs:s<γ.nodes)(hw:w<γ.nodes)(U:s≠w):Ret zM 14 [ptrTo v,x,.agg ⟨[ptrTo z,ptrTo A]⟩,.agg ⟨[.int .i64 (k:Nat),.int .i64 (s:Nat),.int .i64 (w:Nat),.int .i64 a]⟩] h0 (pG (qJ γ l R Q cf Bt k s w a) h0):=by
 have o:((k:Nat):Int)=4\/((k:Nat):Int)=5:=by omega
 refine(FQ (f:=s) (t:=w) (a:=a) (way:=(k:Nat)) M j y T (by omega) bA bA (Ff j y e n B) (fun _=>⟨e,rfl,B,P,rfl,mcell_lt e n⟩)).mono ?_;rintro r h' ⟨g,c,d,D,E,F,rfl,G,i⟩;have p:lC true (k:Nat) l.length q γ.nodes=true:=by
  unfold lC;rcases C with rfl|rfl
  . rfl
  . obtain⟨u,H⟩:=S rfl;simp [u];omega
 have u:decide (((k:Nat):Int)=4\/((k:Nat):Int)=5)=true:=decide_eq_true o;have H:decide (0<=(s:Int)/\(s:Int)<(γ.nodes:Int))=true:=decide_eq_true (by omega);have V:decide (0<=(w:Int)/\(w:Int)<(γ.nodes:Int))=true:=decide_eq_true (by omega);rw [p,u,H,V]at i;have W:uw true true true true=0:=rfl;rw [W]at i;rcases i with⟨h,_⟩|⟨_,X,Y,I,es,ew,_,_,_,J,K,i⟩
 . rcases h with h|h
   . exact absurd rfl h
   . omega
 . obtain rfl:X=s:=(by omega);obtain rfl:Y=w:=(by omega);rcases C with rfl|rfl
   . exact⟨g,c,d,D,E,F,rfl,G,I,J,K,i⟩
   . exact⟨g,c,d,D,E,F,rfl,G,I,J,K,i⟩
theorem wayK_ok(f:ImP h0 b γ tb cb l R Q cf Bt Mc){a:Int}(M:k<6)(q:s<γ.nodes)(t:w<γ.nodes)(B:tw k=true->tb=true)(V:cw k=true->cb=true)(i:s≠w)(u:OZ h0)(y1:h0.load b1 0 1=some [.func (.func 45) #[] #[]])(y2:h0.load b2 0 1=some [.func (.func 50) #[] #[]]):
 ∃g x c,fw b1 b2 k=.func (.func g) x c/\Ret zM g (x.toList++[ptrTo b,.agg ⟨[.int .i64 (k:Nat),.int .i64 (s:Nat),.int .i64 (w:Nat),.int .i64 a]⟩]++c.toList) h0 (pG (qJ γ l R Q cf Bt k s w a) h0):=by
 have j:=f.good;obtain⟨bp,nb,W,X,Y,y,z,t1,t2,Z,c2⟩:=f.ex;have H:Fl W:=by
  cases tb with
  |true=>obtain⟨_,_,rfl,_⟩:=t1 rfl;exact bA
  |false=>rw [t2 rfl];exact bA
 have N:Fl X/\Fl Y:=by
  cases cb with
  |true=>obtain⟨_,_,_,_,_,rfl,rfl,_⟩:=Z rfl;exact⟨bA,bA⟩
  |false=>rw [(c2 rfl).1,(c2 rfl).2];exact⟨bA,bA⟩
 obtain⟨I,J⟩:=N;have n: ∀{k:Nat},k=4\/k=5->(k=5->tb=true)->cb=true-> ∀h,Gr h0 h->Ret zM 14 [ptrTo bp,W,.agg ⟨[X,Y]⟩,.agg ⟨[.int .i64 (k:Nat),.int .i64 (s:Nat),.int .i64 (w:Nat),.int .i64 a]⟩] h (pG (qJ γ l R Q cf Bt k s w a) h):=by
  intro k M h5 O h g;obtain⟨mb,ck,fp,fb,m,rfl,rfl,C,D,bm⟩:=Z O;cases d:tb with
  | true=>
    obtain⟨_,_,E,F⟩:=f.tab d;obtain⟨bt,nt,rfl,T⟩:=t1 d;exact Cn g.ok j (z.gr g) (.inl ⟨_,T.gr g,E,F⟩) f.l4 (C.gr g) D f.cel (bm.gr g) M (fun _=>⟨rfl,(f.tab d).1⟩) q t i
  | false=>
    exact Cn g.ok j (z.gr g) (.inr ⟨t2 d,rfl,f.no d⟩) f.l4 (C.gr g) D f.cel (bm.gr g) M (fun e=>by rw [h5 e]at d;cases d) q t i
 have:k=0\/k=1\/k=2\/k=3\/k=4\/k=5:=by omega
 rcases this with rfl|rfl|rfl|rfl|rfl|rfl
 . refine⟨_,_,_,rfl,uO pJ u y bA y1 aM aM fun h g=>?_⟩;refine(ug g.ok j (z.gr g) q t (vAl:=.slice none 0 0) (vPi:=.slice none 0 0) (als:=[]) (pis:=[]) (.inl ⟨rfl,rfl⟩) (.inl rfl) (.inl ⟨rfl,rfl⟩) (.inl rfl)).mono ?_;rintro r P ⟨g,v,G,rfl,⟨K,L,rfl,gA,gE,n1,n2⟩,o⟩;have A:aw P 1 bM K G.arcs:=gA.sl rfl (fun _=>rfl) (by decide);have p:aw P 4 iM L G.ev:=gE.sl rfl ru (by decide);rcases o with⟨e,_⟩|⟨_,o⟩
   . exact absurd e i
   exact⟨g,G.dist,K,L,rfl,A.fl,p.fl,fun x h=>h.elim (fun h=>(n1 x h).1) (n2 x),fun e=>⟨G,o,p,.inr ⟨e,rfl,rfl,A,.inl ⟨rfl,rfl⟩⟩⟩,fun e=>⟨G,o,p,.inl ⟨e,rfl,rfl,rfl,rfl⟩⟩⟩
 . refine⟨_,_,_,rfl,uO pJ u y bA y2 aM aM fun h g=>?_⟩;refine(yL g.ok j (z.gr g) (vPi:=.slice none 0 0) (pis:=[]) (.inl ⟨rfl,rfl⟩) (.inr ⟨rfl,rfl⟩) q t i).mono ?_;rintro r P ⟨g,K,L,S,rfl,o,p,A,nV⟩;refine⟨g,S.dist,K,L,rfl,A.fl,p.fl,nV,fun e=>⟨S,o,p,.inr ⟨e,rfl,rfl,?_,.inl ⟨rfl,rfl⟩⟩⟩,fun e=>⟨S,o,p,.inl ⟨e,rfl,rfl,rfl,rfl⟩⟩⟩;rw [if_pos e]at A;exact A
 . obtain⟨U,_,E,F⟩:=f.tab (B rfl);obtain⟨bt,nt,rfl,T⟩:=t1 (B rfl);exact⟨_,_,_,rfl,FJ pJ u y bA H I J aM aM aM aM fun h g=>altK_ok g.ok j (z.gr g) (T.gr g) E F U f.l4 aM q t i⟩
 . obtain⟨U,_,E,F⟩:=f.tab (B rfl);obtain⟨bt,nt,rfl,T⟩:=t1 (B rfl);exact⟨_,_,_,rfl,DX pJ u y bA H I J aM aM aM aM fun h g=>twinK_ok g.ok j (z.gr g) (T.gr g) E F U f.l4 aM q t i⟩
 . exact⟨_,_,_,rfl,xF pJ u y bA H I J aM aM aM aM fun h g=>n (.inl rfl) (fun e=>by cases e) (V rfl) h g⟩
 . exact⟨_,_,_,rfl,xF pJ u y bA H I J aM aM aM aM fun h g=>n (.inr rfl) (fun _=>B rfl) (V rfl) h g⟩
theorem askK_ok(f:OZ h0){i j:Prop}(m:nj h0 b I i j)(n:ImP h0 b I.g I.T.isSome I.C.isSome l R Q cf Bt Mc){k s w a:Int}:Ret zM 15 [ptrTo b,.agg ⟨[.int .i64 k,.int .i64 s,.int .i64 w,.int .i64 a]⟩] h0 fun r h'=>Gr h0 h'/\ ∃c d vA e vE,r=.tuple #[ow c d vA e,vE]/\Fl vA/\Fl e/\Fl vE/\
  (((mI I.g.nodes I.T.isSome I.C.isSome k s w≠0\/s=w)/\c=mI I.g.nodes I.T.isSome I.C.isSome k s w/\d=0/\vA=.slice none 0 0/\e=.slice none 0 0/\vE=.slice none 0 0)\/
   (mI I.g.nodes I.T.isSome I.C.isSome k s w=0/\s≠w/\qJ I.g l R Q cf Bt k.toNat s.toNat w.toNat a h' c d vA e vE)):=
 askAny_ok pJ f m fun C D E o p q t u v x y z h b1 b2 g A B=>by subst o p q;exact wayK_ok (n.gr g) t u v x y z g.ok A B
end
theorem note_ins{b:Bool}{t:TypeId}{m k v:Operand}:cH ρ b (.insert t m k v) h h'=(match ρ m with| .map (some r)=>some (.blk r)|_=>none):=by
 simp only [cH,dJ,jo,eR,touch,cond_false];cases ρ m<;>(try rfl)
 next r=>cases r<;>rfl
theorem note_mk{b:Bool}{t:TypeId}:cH ρ b (.makeMap t none) h h'=none:=rfl
def OkEv(N M:Nat)(e:Ev2):Prop:=(e.kind=0/\e.id<N)\/(e.kind=1/\e.id<M/\e.lab=0)
theorem trm1_ok(r:OZ h0){F:Nat}{f:Gra}(c:aP h0 F (ptrTo s) f)(l:h0.load b1 0 1=some [ptrTo s])(u:OkEv f.nodes f.arcs.length e):aQ zM 159 [.agg ⟨dz e⟩,ptrTo b1] h0 (.bool true):=by
 have S:=Si r;obtain⟨v,w,id,G⟩:=e;have H:=aV r l;unfold dz;simp only [];refine erA (n:=43) (rs:=[.tmp 3]) e159 ?_;simp only [BZ,seval];refine ab (aW (by intro x e;cases e)) S ?_;clear S;intro h a S y;simp only [ac]at S;simp only [BZ];have J:=Xu H S.gr.n;refine fork_step (jG (ord:=[1,2,4,5,8,9,0,3,6,7,10,11]) rfl rfl (by simp only [dW,ou,eX,X8,X9,Yk,Xm,Xt,cond_true,cond_false,seval];exact rfl)) (t:=5) (q:=74) (ps:=[(5,8),(5,7),(2,7),(3,5),(1,5),(1,2),(5,8),(5,7),(3,5),(1,5),(1,2)]) (by kernel_rfl) (by kernel_rfl) ?_;simp only [BZ,cls,S.gr.load l,seval];refine rf (bC (h0:={h with lo:=h.n}) S.ok ((c.gr S.gr).keep S.ok (fun _ _=>rfl))) ?_;intro h g;replace S:=S.call g;simp only [BZ,cls,S.gr.load l,seval];refine rf (iW (h0:={h with lo:=h.n}) S.ok ((c.gr S.gr).keep S.ok (fun _ _=>rfl))) ?_;intro h g;replace S:=S.call g;simp only [BZ,cls,S.ld (b:=a) (o:=0) m0 rfl,seval];have K:=(S.row (b:=a) m0).lt S.ok;have L:b1<h.n:=aV S.ok (S.gr.load l);refine cV lM S ?_;clear S;intro h j S z A;simp only [BZ,cls,seval];refine cJ (S.mput (i:=0) rfl t230.1 (by simp only [bK,Tryz.t3.1];rfl) rfl) ?_;clear S;rintro h S;simp only [BZ,cls,seval];simp only [LC,Xs]at S;refine cJ (S.mput (i:=0) rfl t230.1 (by simp only [bK,Tryz.t3.1];rfl) rfl) ?_;clear S;rintro h S;simp only [LC,seval]at S;have B:h.get j=some (.map _ 2):=(S.own _ XG).2;have I:cM zM h 230 (.map (some j)) (.int .i64 (v:Nat)) false=some (.int .i64 (if v=0 then f.nodes else f.arcs.length)):=by
  simp only [cM,t230.1,tg Tryz.t3.1,cond_true,B];rcases u with⟨d,_⟩|⟨d,_⟩
  . simp only []at d;subst d;rfl
  . simp only []at d;subst d;rfl
 have C:b1≠j:=by omega
 have D:a≠j:=by omega
 simp only [BZ,cls,I,seval];refine⟨by simp only [aI,aO,aF,aK,aH,ne_eq,not_false_eq_true,aU,aY,aN,aJ,bw,bN,aD,Xa,ah,cL,AV,note_ins,note_mk,jD,cS C,cS C.symm,cS D,cS D.symm,seval];rfl,?_⟩;refine run_kill (b:=j) (by simp only [bw,aD,seval]) B ?_;replace S:=S.dead;have m:(0:Int)<=(id:Int):=by omega
 rcases u with⟨d,p⟩|⟨d,p,E⟩
 . simp only []at d p;subst d;have k:(id:Int)<(f.nodes:Int):=(by omega);cases w
   . simp only [BZ,aa,zO,XB,m,k,dk,S.ld (b:=a) (o:=0) m0 rfl,S.ld (b:=a) (o:=1) m0 rfl,S.ld (b:=a) (o:=2) m0 rfl,S.ld (b:=a) (o:=3) m0 rfl,seval];exact S.gr
   . simp only [BZ,aa,zO,m,k,dk,(by decide: ¬(1:Int)=0),S.ld (b:=a) (o:=0) m0 rfl,S.ld (b:=a) (o:=1) m0 rfl,S.ld (b:=a) (o:=2) m0 rfl,S.ld (b:=a) (o:=3) m0 rfl,seval];exact S.gr
 . simp only []at d p E;subst d E;have k:(id:Int)<(f.arcs.length:Int):=(by omega);cases w
   . simp only [BZ,aa,zO,XB,m,k,dk,(by decide: ¬(1:Int)=0),S.ld (b:=a) (o:=0) m0 rfl,S.ld (b:=a) (o:=1) m0 rfl,S.ld (b:=a) (o:=2) m0 rfl,S.ld (b:=a) (o:=3) m0 rfl,seval];exact S.gr
   . simp only [BZ,aa,zO,m,k,dk,(by decide: ¬(1:Int)=0),S.ld (b:=a) (o:=0) m0 rfl,S.ld (b:=a) (o:=1) m0 rfl,S.ld (b:=a) (o:=2) m0 rfl,S.ld (b:=a) (o:=3) m0 rfl,seval];exact S.gr
def oh(e:Ev2):Value:=.agg ⟨[.int .i64 (e.kind:Nat),.int .i64 (dk e.side:Nat),.int .i64 (e.id:Nat)]⟩
def qm(a b:Ev2):Prop:=a.kind=b.kind/\a.side=b.side/\a.id=b.id
instance (a b:Ev2):Decidable (qm a b):=by unfold qm;infer_instance
theorem nat_ibeq(a b:Nat):jh (a:Int) (b:Int)=decide (a=b):=by show Nat.beq a b=_;rw [cR]
theorem keyEq_e(a b:Ev2):cD (oh a) (oh b)=some (decide (qm a b)):=by
 unfold oh cD;simp only [dN,gQ,cond_true,nat_ibeq];have c:decide (dk a.side=dk b.side)=decide (a.side=b.side):=by cases a.side<;>cases b.side<;>rfl
 rw [c];unfold qm;by_cases d:a.kind=b.kind<;>by_cases e:a.side=b.side<;>by_cases f:a.id=b.id<;>simp [d,e,f]
def mw:Nat->List Ev2->List (Value×Value×Nat)
 |_,[]=>[]|n,e::l=>(oh e,.int .i64 1,n)::mw (n+1) l
theorem uA{e:Ev2}: ∀{l:List Ev2} {n:Nat},(∀x∈l,¬qm e x)->bF (oh e) (mw n l)=some none
 | [],_,_=>rfl| x::l,n,h=>by unfold mw bF;rw [keyEq_e,decide_eq_false (h x XG)];exact uA fun y a=>h y (XM _ a)
theorem AY{e:Ev2}: ∀{l:List Ev2} {n:Nat},mw n (l++[e])=mw n l++[(oh e,.int .i64 1,n+l.length)]
 | [],_=>rfl| x::l,n=>by show _::mw (n+1) (l++[e])=_::(mw (n+1) l++_);rw [AY,XP,show n+1+l.length=n+(l.length+1) by omega]
theorem Cw: ∀{l:List Ev2} {n:Nat},∀p∈mw n l,p.2.2<n+l.length
 | x::l,n,p,h=>by
   rcases List.mem_cons.1 h with rfl|h
   . show n<_;rw [XP];omega
   . have:=Cw p h;rw [XP];omega
theorem ze{k z w:Value}{c:Nat}: ∀{a:List (Value×Value×Nat)},(∀p∈a,p.2.2<c)->iF c w (a++[(k,z,c)])=some (a++[(k,w,c)])
 | [],_=>by simp [iF,YA]| (k',v',b)::a,h=>by have d:=h _ XG;have e:Nat.beq b c=false:=(by rw [cR];exact decide_eq_false (by simp only []at d;omega));simp only [XL,iF,e,cond_false,ze fun p f=>h p (XM _ f)]
theorem St.mentN{L:List (Nat×Ob)}(S:St M h0 h L G){t kt el:TypeId}{i:Nat}{a:List (Value×Value×Nat)}{k z:Value}(d:L[i]? =some (b,.map a c))(f:E.und t=some (.map kt el))(hf:bK E kt k=true)(g:E.zeroV el=some z)(j:bF k a=some none):
 ∃h',jK E h t (.map (some b)) k=some (h',.tuple #[z,.int .i64 (Yl c)])/\St M h0 h' (L.set i (b,.map (a++[(k,z,c)]) (c+1))) G/\Mo (· =b) h h':=by
 have e:h.get b=some (.map a c):=(S.own _ (List.mem_of_getElem? d)).2;refine⟨h.put b (.map (a++[(k,z,c)]) (c+1)),?_,S.put d ?_,(Mo.refl (M:=(· =b)) S.ok).put (.inr rfl) _⟩
 . simp only [jK,jV,f,hf,cond_true,e,j,g]
 . exact oS e
theorem build_key{a b c:Int}:jE zM 144 [(0,.int .i64 a),(1,.int .i64 b),(2,.int .i64 c)]=some (.agg ⟨[.int .i64 a,.int .i64 b,.int .i64 c]⟩):=rfl
theorem once1_ok(N:OZ h0){F:Gra}{l:List Ev2}(cN: ∀h',Mo (· =a) h0 h'->aP h' nb (ptrTo O) F)(Q:h0.load b1 0 1=some [ptrTo O])(R:h0.load b5 0 1=some [.func (.func 159) #[] #[ptrTo b1]])(G:h0.load b6 0 1=some [.map (some a)])(T:b1≠a)(U:b5≠a)(V:b6≠a)(hm:h0.get a=some (.map (mw 0 l) l.length))(he:OkEv F.nodes F.arcs.length e)(W: ∀x∈l,¬qm e x):Ret zM 69 [.agg ⟨dz e⟩,ptrTo b6,ptrTo b5] h0 fun r h'=>r=.bool false/\Mo (· =a) h0 h'/\h'.get a=some (.map (mw 0 (l++[e])) (l++[e]).length):=by
 have S:=St.init1 N (o:=.map (mw 0 l) l.length) hm;have zm:a<h0.n:=S.key_lt (by simp [keys]);have z6:=aV N G;have c:=uA (n:=0) W;have H:bK zM 144 (oh e)=true:=rfl;obtain⟨m,s,id,d⟩:=e;unfold dz;simp only [];refine erA (n:=29) (rs:=[.tmp 4]) e69 ?_;simp only [BZ,seval];refine ab (aW (by intro x e;cases e)) S ?_;clear S;intro h C S X;simp only [ac]at S;simp only [BZ,build_key,S.ld (b:=C) (o:=0) m0 rfl,S.ld (b:=C) (o:=1) m0 rfl,S.ld (b:=C) (o:=2) m0 rfl,seval];refine ab au S ?_;clear S;intro h D S Y;simp only [BZ,seval];refine az (stA S (i:=0) t144.2.2.1) ?_;clear S;rintro h ⟨S,mo⟩;clear mo;simp only [LC,ac,lay,Xc,Xd,seval]at S;have g1:=S.fr;have j:=S.old G V;have t:=S.old R U;have ad:=S.old Q T;have u:=S.lds (b:=D) (o:=0) (n:=3) m0 (lbt rfl);have f:h.get a=some (.map (mw 0 l) l.length):=(S.own _ m2).2;have k:cM zM h 140 (.map (some a)) (oh ⟨m,s,id,d⟩) false=some (.int .i64 0):=by simp only [cM,t140.1,H,cond_true,f,c];rfl
 unfold oh at k c H;simp only [Xd,Xc]at u k;simp only [BZ];refine ao (av rfl) (q:=0) (ps:=[]) (by kernel_rfl) ?_;simp only [BZ,cls,j,u,k,seval];obtain⟨Z,e1,S1,_⟩:=S.mentN (i:=2) (z:=.int .i64 0) rfl t140.1 H (by kernel_rfl) c;refine lu (P:=fun h' v'=>h'=Z/\v'=.tuple #[.int .i64 0,.int .i64 (Yl l.length)]) ⟨Z,_,e1,rfl,rfl⟩ ?_;rintro h' v' ⟨rfl,rfl⟩;clear S;have S:=S1;clear S1;simp only [LC]at S;simp only [BZ,cls,XQ,seval];have w1:am .i64 1=1:=rfl;refine cJ (S.mstoreI (i:=2) (w:=.int .i64 1) rfl (ze fun p hp=>by have:=Cw p hp;omega)) ?_;clear S;rintro I ⟨J,S⟩;clear J;simp only [LC]at S;simp only [BZ,seval];have q6:b6≠D:=by omega
 have qt:D≠a:=by omega
 have f:I.get a=some (.map (mw 0 l++[(oh ⟨m,s,id,d⟩,.int .i64 1,l.length)]) (l.length+1)):=(S.own _ m2).2;have v:cM zM I 140 (.map (some a)) (oh ⟨m,s,id,d⟩) false=some (.int .i64 1):=by have K:bK zM 144 (oh ⟨m,s,id,d⟩)=true:=rfl;simp only [cM,t140.1,K,cond_true,f];rw [rJ (by rw [keyEq_e];exact congrArg some (decide_eq_true ⟨rfl,rfl,rfl⟩)) (uA W)];rfl
 unfold oh at v;have j:=S.old G V;have t:=S.old R U;have y:=S.lds (b:=D) (o:=0) (n:=3) m0 (lbt rfl);have A:=S.lds (b:=C) (o:=0) (n:=4) m1 (lbt rfl);simp only [Xd,Xc]at y A;simp only [BZ,t,A,seval];refine ae (trm1_ok S.ok (cN _ S.fr) (S.old Q T) he) ?_;intro h4 E;have B:=E.load j;have L:=E.load y;have g:h4.get a=I.get a:=E.get a (Xu zm S.fr.n);have M:cM zM h4 140 (.map (some a)) (.agg ⟨[.int .i64 (m:Nat),.int .i64 (dk s:Nat),.int .i64 (id:Nat)]⟩) false=some (.int .i64 1):=by rw [<-v];simp only [cM,g]
 replace S:=S.call E;simp only [BZ,aa,B,L,M,seval];refine⟨S.fr,?_⟩;rw [g,f,AY,Xs,XF];rfl
theorem idxE_ok{v:Value}(p:Fl v)(q:xs.length<1000000)(I:Nat->Hp->Prop)(d: ∀i h,I i h->aw h 4 dz v xs)(hf: ∀i h (f:i<xs.length),I i h->Ret zM g ([.agg ⟨dz xs[i]⟩]++post.toList) h fun r h'=>r=.bool false/\I (i+1) h')(a:I 0 h0):Ret zM 160 [v,.func (.func g) #[] post] h0 fun r h'=>r=.int .i64 (-1)/\I xs.length h':=by
 refine erA (n:=19) (rs:=[.tmp 4]) e160 ?_;simp only [BZ,(d 0 h0 a).lenq,seval];refine aX (fun(i:Nat) b h=>i<=xs.length/\I i h/\b 0=v/\b 1=.func (.func g) #[] post/\b 7=.int .i64 (xs.length:Nat)/\b 8=.int .i64 i) (fun i=>xs.length-i) ?_ 0 _ _ ?_
 . intro i j b h ⟨f,h1,r0,r1,r7,r8⟩;have w:am .i64 ((i:Int)+1)=((i+1:Nat):Int):=(by rw [wrap64]<;>omega);by_cases hlt:i<xs.length
   . obtain⟨c,o,k,l⟩:=(d i h h1).ix (kd:=.i64) (fun _=>rfl) hlt;simp only [BZ,r0,r1,r7,r8,aE,hlt,k,l,seval];refine step_ret (hf i h hlt h1) ?_;rintro r s ⟨rfl,m⟩;simp only [BZ,r8,w,seval];exact j (i+1) _ _ (by omega) ⟨by omega,m,by simp [aB,r0,r1,r7]⟩
   . have e:i=xs.length:=(by omega);subst e;simp only [BZ,aa,r7,r8,aE,hlt,seval];exact h1
 . exact⟨Xe _,a,by simp [aB,cL]⟩
theorem u9{v:Value}(b:Fl v)(c:xs.length<1000000)(I:Nat->Hp->Prop)(d: ∀i h,I i h->aw h 4 dz v xs)(hf: ∀i h (f:i<xs.length),I i h->Ret zM g ([.agg ⟨dz xs[i]⟩]++post.toList) h fun r h'=>r=.bool false/\I (i+1) h')(a:I 0 h0):Ret zM 68 [v,.func (.func g) #[] post] h0 fun r h'=>r=.bool false/\I xs.length h':=by
 refine erA (n:=9) (rs:=[.tmp 4]) e68 ?_;simp only [BZ,seval];refine step_ret (idxE_ok b c I d hf a) ?_;rintro r h ⟨rfl,e⟩;simp only [BZ,aa,seval];exact e
theorem DG(c:OZ h0)(d:Fl p):Ret zM 67 [p] h0 fun r h'=>Gr h0 h'/\ ∃b1,r=.func (.func 159) #[] #[ptrTo b1]/\h'.load b1 0 1=some [p]:=by have S:=Si c;refine erA (n:=4) (rs:=[.tmp 2]) e67 ?_;simp only [BZ,seval];refine ab (bz (by assumption)) S ?_;clear S;intro h b1 S a;simp only [BZ,aa,seval];exact⟨S.gr,_,rfl,S.ld (b:=b1) (o:=0) m0 rfl⟩
theorem BT(B:OZ h0){q:Nat}{k:Gra}(c:aP h0 C (ptrTo q) k){v:Value}(sv:aw h0 4 dz v xs)(D:xs.length<1000000)(E: ∀x∈xs,OkEv k.nodes k.arcs.length x)(F:xs.Pairwise fun a b=> ¬qm b a):aQ zM 24 [ptrTo q,v] h0 (.bool true):=by
 have S:=Si B;have G:=sv.fl;refine erA (n:=16) (rs:=[.tmp 4]) e24 ?_;simp only [BZ,seval];refine step_ret (DG S.ok bA) ?_;rintro r h ⟨g,H,rfl,s⟩;have d:=g.ok;clear S;rename Hp=>hM;have S:=Si d;have M:=aV d s;simp only [BZ];refine ab au S ?_;clear S;intro h t S u;simp only [BZ,seval];refine az (aA S (i:=0) rfl ?_ ?_ ?_ ono) ?_
 . exact(by simp only [FA0])
 . exact(by exact dI)
 . exact Xb (lbt rfl)
 clear S;rintro h ⟨S,l⟩;clear l;simp only [LC,ac,lay,Xc,Xd,seval]at S;simp only [BZ];refine ab lM S ?_;clear S;intro h w S f;simp only [BZ];refine ab au S ?_;clear S;intro h y S z;simp only [BZ,seval];refine az (aA S (i:=0) rfl ?_ ?_ ?_ ono) ?_
 . exact(by simp only [FA0])
 . exact(by exact yW)
 . exact Xb (lbt rfl)
 clear S;rintro h ⟨S,l⟩;clear l;simp only [LC,ac,lay,Xc,Xd,seval]at S;simp only [BZ,seval];have I:=S.apart;simp only [keys,Xm,Xt,Xo,Xh,XV,Xw,Xr,or_false,not_or]at I;refine step_ret (u9 G D (fun i h=>St NoM hM h [(y,.row [.map (some w)] 1),(w,.map (mw 0 (xs.take i)) (xs.take i).length),(t,.row [.func (.func 159) #[] #[ptrTo H]] 1)] []) (fun i h S=>sv.gr (g.trans S.gr)) ?_ S) ?_
 . intro i h p S;refine(once1_ok S.ok (fun A m=>c.gr (g.trans ((S.fr.trans m (fun x e=>.inr (by subst e;exact f)):Mo NoM hM A).gr))) (S.gr.load s) (S.ld (b:=t) (o:=0) m2 rfl) (S.ld (b:=y) (o:=0) m0 rfl) (by omega) (by omega) (by omega) (S.own _ m1).2 (E _ (XC p)) ?_).mono ?_
   . intro x J;obtain⟨j,K,rfl⟩:=Yz J;rw [X6]at K;rw [List.getElem_take];exact List.pairwise_iff_getElem.1 F j i (by omega) p (by omega)
   . rintro r A ⟨rfl,m,L⟩;refine⟨rfl,?_⟩;rw [Xy p];exact S.call1 (i:=1) (o':=.map _ _) rfl m L
 . rintro r h ⟨rfl,S⟩;simp only [BZ,aa,seval];exact g.trans S.gr
theorem AZ(k:OZ h0){e l:Nat}{a:Gra}(c:aP h0 l (ptrTo e) a){i:Nat}(f:i<a.arcs.length){s:Bool}:Ret zM 71 [ptrTo e,.int .i64 (i:Nat),.int .i64 (dk s:Nat)] h0 fun r h'=>Gr h0 h'/\r=.int .i64 (fsB s (a.arcs.getD i default):Nat):=by
 have S:=Si k;have m:a.arcs.getD i default=a.arcs[i]:=by rw [Xl,Xg f];rfl
 rw [m];refine erA (n:=21) (rs:=[.tmp 6]) e71 ?_;simp only [BZ,seval];refine step_ret (jb S.ok (c.gr S.gr) f) ?_;rintro r h ⟨g,rfl⟩;replace S:=S.call g;unfold cQ;simp only [BZ,seval];refine ab au S ?_;clear S;intro h d S j;simp only [BZ,seval];refine az (stA S (i:=0) t135.2.1) ?_;clear S;rintro h ⟨S,p⟩;clear p;simp only [LC,ac,lay,Xc,Xd,seval]at S;cases s
 . simp only [BZ,aa,zO,XB,dk,fsB,(by decide: ¬(0:Int)=1),S.ld (b:=d) (o:=0) m0 rfl,S.ld (b:=d) (o:=1) m0 rfl,seval];exact S.gr
 . simp only [BZ,aa,zO,dk,fsB,S.ld (b:=d) (o:=0) m0 rfl,S.ld (b:=d) (o:=1) m0 rfl,seval];exact S.gr
def my(L:Bool->Int)(e:Ev2):Bool->Int:=if e.kind=0 then fun s=>if s=e.side then(e.id:Int)else L s else L
theorem heads1_ok(A:OZ h0){B P E:Nat}{y:Gra}{L:Bool->Int}(c:aP h0 P (ptrTo B) y)(Q:h0.load b1 0 1=some [ptrTo B])(R:h0.load b5 0 1=some [.func (.func 159) #[] #[ptrTo b1]])(C:h0.load E 0 1=some [ptrTo B])(p:Row h0 b6 [.int .i64 (L false),.int .i64 (L true)] 1)(F:OkEv y.nodes y.arcs.length e)(G:e.kind=1->L e.side=(fsB e.side (y.arcs.getD e.id default):Nat)):Ret zM 70 [.agg ⟨dz e⟩,ptrTo b5,ptrTo b6,ptrTo E] h0 fun r h'=>r=.bool false/\Mo (· =b6) h0 h'/\Row h' b6 [.int .i64 (my L e false),.int .i64 (my L e true)] 1:=by
 have S:=Si A;have V:b6<h0.n:=p.lt A;have T:=aV A C;obtain⟨W,H,id,U⟩:=e;have f:=fun(h:Hp) (g:Gr h0 h)=>trm1_ok g.ok (c.gr g) (g.load Q) F;unfold dz at f⊢;simp only []at G f⊢;refine erA (n:=31) (rs:=[.tmp 5]) e70 ?_;simp only [BZ,seval];refine ab (aW (by intro x e;cases e)) S ?_;clear S;intro h a S I;simp only [ac]at S;have k:=S.lds (b:=a) (o:=0) (n:=4) m0 (lbt rfl);simp only [Xd,Xc]at k;simp only [BZ,S.gr.load R,k,seval];refine ae (f _ S.gr) ?_;intro h g;replace S:=S.call g;clear g k;rcases F with⟨t,z⟩|⟨t,z,m⟩
 . simp only []at t;subst t;have j:=p.gr S.gr;have d:=St.init1 S.ok (o:=.row _ 1) j;have X: ¬a=b6:=(by omega);cases H
   . simp only [BZ,zO,XB,dk,S.ld (b:=a) (o:=0) m0 rfl,S.ld (b:=a) (o:=1) m0 rfl,S.ld (b:=a) (o:=2) m0 rfl,seval];refine az (aA d (i:=0) rfl Tryz.t3.2.2.1 aM (Xb (lbt rfl)) ono) ?_;clear d;rintro m ⟨d,D⟩;clear D;simp only [Ya,Yp]at d;simp only [BZ,aa,seval];refine⟨S.gr.fr.trans d.fr (fun _ h=>.inl h),?_⟩;simp [my];exact d.row m0
   . simp only [BZ,zO,dk,S.ld (b:=a) (o:=0) m0 rfl,S.ld (b:=a) (o:=1) m0 rfl,S.ld (b:=a) (o:=2) m0 rfl,seval];refine az (aA d (i:=0) rfl Tryz.t3.2.2.1 aM (Xb (lbt rfl)) ono) ?_;clear d;rintro m ⟨d,D⟩;clear D;simp only [Ya,Yp]at d;simp only [BZ,aa,seval];refine⟨S.gr.fr.trans d.fr (fun _ h=>.inl h),?_⟩;simp [my];exact d.row m0
 . simp only []at t z m;subst t m;have J:=G rfl;have j:=p.gr S.gr;have K:=(S.row (b:=a) m0).lt S.ok;have M:=j.lt S.ok;have N:=Xu T S.gr.n;have O: ¬(1:Int)=0:=(by decide);cases H
   . have l:=j.load1 (o:=0) rfl;simp only [BZ,zO,XB,dk,O,S.ld (b:=a) (o:=0) m0 rfl,seval];refine ao (av rfl) (q:=0) (ps:=[(3,9),(1,9)]) (by kernel_rfl) ?_;simp only [BZ,cls,zO,XB,dk,l,S.gr.load C,S.ld (b:=a) (o:=1) m0 rfl,S.ld (b:=a) (o:=2) m0 rfl,seval];refine bO (AZ S.ok (c.gr S.gr) z (s:=false)) ?_;rintro r m ⟨g,rfl⟩;have u:=ag g K;have v:=ag g M;have w:=ag g N;replace S:=S.call g;simp only [BZ,cls,aa,J,seval];refine⟨by simp only [aI,aO,aF,aK,aH,ne_eq,not_false_eq_true,aU,aY,aN,aJ,bw,bN,aD,Xa,ah,cL,aq u,an u,aq v,an v,aq w,an w,seval],?_⟩;exact⟨S.fr.mono (fun _ h=>h.elim),by simp [my];exact p.gr S.gr⟩
   . have l:=j.load1 (o:=1) rfl;simp only [BZ,zO,dk,O,S.ld (b:=a) (o:=0) m0 rfl,seval];refine ao (av rfl) (q:=0) (ps:=[(3,9),(1,9)]) (by kernel_rfl) ?_;simp only [BZ,cls,zO,dk,l,S.gr.load C,S.ld (b:=a) (o:=1) m0 rfl,S.ld (b:=a) (o:=2) m0 rfl,seval];refine bO (AZ S.ok (c.gr S.gr) z (s:=true)) ?_;rintro r m ⟨g,rfl⟩;have u:=ag g K;have v:=ag g M;have w:=ag g N;replace S:=S.call g;simp only [BZ,cls,aa,J,seval];refine⟨by simp only [aI,aO,aF,aK,aH,ne_eq,not_false_eq_true,aU,aY,aN,aJ,bw,bN,aD,Xa,ah,cL,aq u,an u,aq v,an v,aq w,an w,seval],?_⟩;exact⟨S.fr.mono (fun _ h=>h.elim),by simp [my];exact p.gr S.gr⟩
def tH(A:List Arc)(xs:List Ev2):Prop:= ∀i,(a:i<xs.length)->xs[i].kind=1->(xs.take i).foldl my (fun _=> -1) xs[i].side=((fsB xs[i].side (A.getD xs[i].id default):Nat):Int)
theorem two_of{a b:Value}:jE zM 145 [(0,.int .i64 (-1)),(1,.int .i64 (-1))]=some (.agg ⟨[.int .i64 (-1),.int .i64 (-1)]⟩):=rfl
theorem BG(w:OZ h0){l:Nat}{a:Gra}(c:aP h0 y (ptrTo l) a){v:Value}(sv:aw h0 4 dz v xs)(z:xs.length<1000000)(A: ∀x∈xs,OkEv a.nodes a.arcs.length x)(B:tH a.arcs xs):aQ zM 25 [ptrTo l,v] h0 (.bool true):=by
 have S:=Si w;have C:=sv.fl;refine erA (n:=16) (rs:=[.tmp 4]) e25 ?_;simp only [BZ,seval];refine ab (bz (by exact bA)) S ?_;clear S;intro h d S p;simp only [BZ,S.ld (b:=d) (o:=0) m0 rfl,seval];refine step_ret (DG S.ok bA) ?_;rintro r h ⟨g,D,rfl,E⟩;have H:=(S.row (b:=d) m0).lt S.ok;have F:=g.load (S.ld (b:=d) (o:=0) m0 rfl);have e:=(S.call g).gr;have f:=g.ok;clear S;rename Hp=>hM;have S:=Si f;simp only [BZ];refine ab au S ?_;clear S;intro h q S s;simp only [BZ,seval];refine az (aA S (i:=0) rfl ?_ ?_ ?_ ono) ?_
 . exact(by simp only [FA0])
 . exact(by exact dI)
 . exact Xb (lbt rfl)
 clear S;rintro h ⟨S,j⟩;clear j;simp only [LC,ac,lay,Xc,Xd,seval]at S;simp only [BZ,two_of];refine ab au S ?_;clear S;intro h t S u;simp only [BZ,seval];refine az (stA S (i:=0) t145.2.2.1) ?_;clear S;rintro h ⟨S,j⟩;clear j;simp only [LC,ac,lay,Xc,Xd,seval]at S;simp only [BZ,seval];refine step_ret (u9 C z (fun i h=>St NoM hM h [(t,.row [.int .i64 ((xs.take i).foldl my (fun _=> -1) false),.int .i64 ((xs.take i).foldl my (fun _=> -1) true)] 1),(q,.row [.func (.func 159) #[] #[ptrTo D]] 1)] []) (fun i h S=>sv.gr (e.trans S.gr)) ?_ S) ?_
 . intro i h k S;refine(heads1_ok S.ok (c.gr (e.trans S.gr)) (S.gr.load E) (S.ld (b:=q) (o:=0) m1 rfl) (S.gr.load F) (S.row (b:=t) m0) (A _ (XC k)) (B i k)).mono ?_;rintro r I ⟨rfl,m,G⟩;refine⟨rfl,?_⟩;rw [Xy k,Yg];exact S.call1 (i:=0) (o':=.row _ 1) rfl m G
 . rintro r h ⟨rfl,S⟩;simp only [BZ,aa,seval];exact e.trans S.gr
structure EvO(A:List Arc)(N:Nat)(O:Bool->List Nat)(ev:List Ev2):Prop where
 ok: ∀e∈ev,OkEv N A.length e
 nd:ev.Pairwise fun a b=> ¬qm b a
 mem: ∀e∈ev,(if e.kind=0 then e.id else fsB e.side (A.getD e.id default))∈O e.side
 hd:tH A ev
section
variable{A:List Arc}{N:Nat}{O O':Bool->List Nat}{ev:List Ev2}
theorem EvO.nil:EvO A N O []:=⟨by simp,.nil,by simp,fun i a=>by simp at a⟩
theorem heads_app(h:tH A ev)(d:e.kind=1->ev.foldl my (fun _=> -1) e.side=((fsB e.side (A.getD e.id default):Nat):Int)):tH A (ev++[e]):=by
 intro i b a;rw [XF,XY]at b;by_cases hlt:i<ev.length
 . have c:(ev++[e])[i]=ev[i]:=List.getElem_append_left hlt;rw [c]at a⊢;rw [List.take_append_of_le_length (by omega)];exact h i hlt a
 grind
theorem EvO.add(h:EvO A N O ev)(g:OkEv N A.length e)(j: ∀x∈ev,¬qm e x)(d: ∀i x,x∈O i->x∈O' i)(k:(if e.kind=0 then e.id else fsB e.side (A.getD e.id default))∈O' e.side)(f:e.kind=1->ev.foldl my (fun _=> -1) e.side=((fsB e.side (A.getD e.id default):Nat):Int)):EvO A N O' (ev++[e]):=by
 refine⟨fun x c=>?_,List.pairwise_append.2 ⟨h.nd,List.pairwise_singleton _ _,fun a l b m=>?_⟩,fun x c=>?_,heads_app h.hd f⟩
 . rcases List.mem_append.1 c with c|c
   . exact h.ok x c
   grind
 . grind
 . rcases List.mem_append.1 c with c|c
   . exact d _ _ (h.mem x c)
   grind
theorem EvO.pop(h:EvO A N O ev)(a:v<N)(f:v∉O i)(b: ∀i x,x∈O i->x∈O' i)(c:v∈O' i):EvO A N O' (ev++[⟨0,i,v,lab⟩]):=by refine h.add (.inl ⟨rfl,a⟩) (fun x d e=>?_) b c (fun h=>by cases h);have:=h.mem x d;obtain⟨g,j,k⟩:=e;grind
def iY(al:Nat->Bool)(i:Bool)(l:List Nat):List Ev2:=(l.filter al).map fun a=>⟨1,i,a,0⟩
theorem EvO.scan{al:Nat->Bool}{i:Bool}{v:Nat}(n:v∈O i): ∀(l:List Nat) {ev:List Ev2},EvO A N O ev->l.Nodup->(∀a∈l,a<A.length/\fsB i (A.getD a default)=v)->ev.foldl my (fun _=> -1) i=(v:Int)->
 (∀e∈ev,e.kind=1->e.side=i->e.id∉l)->EvO A N O (ev++iY al i l)
 | [],ev,h,_,_,_,_=>by unfold iY;simpa using h| a ::l,ev,h,t,o,p,q=>by
   have c:=List.nodup_cons.1 t;have d:=o a XG;cases j:al a with
   | false=>
     have:iY al i (a::l)=iY al i l:=(by unfold iY;rw [Yf (by simp [j])]);rw [this];exact EvO.scan n l h c.2 (fun b r=>o b (XM _ r)) p (fun e f k m g=>q e f k m (XM _ g))
   | true=>
     have:ev++iY al i (a::l)=(ev++[⟨1,i,a,0⟩])++iY al i l:=(by unfold iY;rw [Yu j,Xm,Yr];rfl);rw [this];refine EvO.scan n l ?_ c.2 (fun b r=>o b (XM _ r)) ?_ ?_
     . refine h.add (.inr ⟨rfl,d.1,rfl⟩) (fun x s u=>?_) (fun _ _ h=>h) ?_ (fun _=>?_)
       . obtain⟨k,m,g⟩:=u;exact q x s k.symm m.symm (by rw [<-g];exact XG)
       . show(if 1=0 then _ else _)∈_;rw [if_neg (by decide),d.2];exact n
       . simp only [];rw [p,d.2]
     . rw [Yg,Yd,List.foldl_nil];unfold my;rw [if_neg (by simp)];exact p
     . intro e f k m g;rcases List.mem_append.1 f with f|f
       . exact q e f k m (XM _ g)
       . rw [List.mem_singleton.1 f]at g;exact c.1 g
theorem EvO.step{l:List Nat}(h:EvO A N O ev)(d:v<N)(f:v∉O i)(g: ∀i x,x∈O i->x∈O' i)(c:v∈O' i)(j:l.Nodup)(k: ∀a∈l,a<A.length/\fsB i (A.getD a default)=v):EvO A N O' (ev++[⟨0,i,v,lab⟩]++iY al i l):=by
 refine EvO.scan c l (h.pop d f g c) j k ?_ ?_
 . rw [Yg,Yd,List.foldl_nil];unfold my;grind
 . intro e b m n o;rcases List.mem_append.1 b with b|b
   . have:=h.mem e b;grind
   grind
end
theorem zg(A:List Arc)(f:Arc->Nat)(j v:Nat):(outs A f j v).Nodup:=by unfold outs;exact List.nodup_range.filter _
section
variable{A:List Arc}{N:Nat}{al:Nat->Bool}{pi:Nat->Int}{rt:Bool->Nat}{σ τ:Bi}
theorem Cg{i:Bool}{v:Nat}: ∀(l:List Nat) {σ:Bi},(l.foldl (eo A al pi i v) σ).ev=σ.ev++iY al i l
 | [],σ=>by unfold iY;simp| a::l,σ=>by
   rw [Yd,Cg l];unfold eo;cases b:al a with
   |false=>simp_all[if_neg,Bool.false_ne_true,iY,Yf]|true=>rw [if_pos rfl,uZ];unfold iY evB;grind
theorem ends_EvO(n:N<=12)(o: ∀a∈A,a.s<N/\a.t<N/\a.w<=cg)(p:j7 A al pi σ τ):BiI A N rt al pi σ->EvO A N (fun i=>(σ.sd i).O) σ.ev->EvO A N (fun i=>(τ.sd i).O) τ.ev:=by
 induction p with
 |stop _=>grind| @step σ τ i v k w d _ q=>
   intro I h;obtain⟨r,f⟩:=wU n o I d.1;refine q r ?_;obtain⟨b,l,s,_⟩:=(I.sv i).op v k d.1;have t:=f.O;have g:=f.ot;rw [clo_b]at t;rw [clo_n]at g;have c:(iz A al pi i v (cG σ i v)).ev=σ.ev++[⟨0,i,v,labB σ i v⟩]++iY al i (outs A (fsB i) A.length v):=(by unfold iz;rw [Cg];rfl);rw [c];refine h.step ((I.sv i).lab v l s).1 b (fun j x m=>?_) ?_ (zg _ _ _ _) (fun a u=>jU.1 u)
   . by_cases e:j=i
     . grind
     . rw [pR e];show x∈((iz A al pi i v (cG σ i v)).sd (!i)).O;rw [show(iz A al pi i v (cG σ i v)).sd (!i)=σ.sd (!i)from g];rw [pR e]at m;exact m
   grind
theorem twin_EvO(b:N<=12)(c: ∀a∈A,a.s<N/\a.t<N/\a.w<=cg)(d:s<N)(e:t<N)(f:j7 A al pi (kU pi s t) τ):EvO A N (fun i=>(τ.sd i).O) τ.ev:=
 ends_EvO (rt:=rtB s t) b c f (wX b d e) (by rw [xQ];exact EvO.nil)
end
def toE2(e:Ev):Ev2:=⟨e.kind,false,e.id,e.lab⟩
section
variable{A:List Arc}{N s:Nat}{al:Nat->Bool}{pi:Nat->Int}{σ:SS}
theorem vf{p:List Nat}:(ir pi σ v lab p).ev=σ.ev:=by unfold ir;split<;>rfl
theorem CV{v:Nat}: ∀(l:List Nat) {σ:SS},(l.foldl (scan1 A al pi v) σ).ev.map toE2=σ.ev.map toE2++iY al false l
 | [],σ=>by unfold iY;simp| a::l,σ=>by
   rw [Yd,CV l];unfold scan1;cases b:al a with
   |false=>simp_all[if_neg,Bool.false_ne_true,iY,Yf]|true=>rw [if_pos rfl,vf];unfold iY evS;rw [Yu b,Xm,XW,Yr];rfl
def oneS(O:List Nat):Bool->List Nat:=fun i=>if i=true then []else O
theorem ends_EvS{r:Fd}(f: ∀a∈A,a.t<N/\a.w<=cg)(g:Ends A al pi to σ r):Sv A N s al pi σ->EvO A N (oneS σ.O) (σ.ev.map toE2)-> ∃O,EvO A N O (r.ev.map toE2):=by
 induction g with
 |none _=>grind| @hit σ k b=>
   intro I h;obtain⟨c,j,_⟩:=I.op _ _ b.1;refine⟨oneS (σ.O++[to]),?_⟩;show EvO A N _ ((σ.ev++[_]).map toE2);rw [XW];refine h.pop c (by simp_all[oneS,if_neg]) (fun i x d=>?_) (by simp_all[oneS,if_neg]);unfold oneS at d⊢;grind
 | @step σ v k r b l _ m=>
   intro I h;obtain⟨n,o⟩:=I.next f b.1
   obtain⟨c,j,_⟩:=I.op _ _ b.1;refine m n ?_;have e:(pX A al pi v (d6 σ v)).ev.map toE2=σ.ev.map toE2++[⟨0,false,v,σ.L v⟩]++iY al false (outs A Arc.s A.length v):=(by unfold pX;rw [CV];simp [d6,toE2]);rw [e,show(pX A al pi v (d6 σ v)).O=σ.O++[v]from o.O];refine h.step c (by simp_all[oneS,if_neg]) (fun i x d=>?_) (by simp_all[oneS,if_neg]) (zg _ _ _ _) (fun a p=>jU.1 p);unfold oneS at d⊢;grind
theorem seek_EvO{r:Fd}(b: ∀a∈A,a.t<N/\a.w<=cg)(c:s<N)(d:Ends A al pi to (jY pi s) r): ∃O,EvO A N O (r.ev.map toE2):=
 ends_EvS b d (xf c) (by unfold jY;rw [vf];exact EvO.nil)
end
structure EvK(γ:Gra)(xs:List Ev2):Prop where
 len:xs.length<1000000
 ok: ∀x∈xs,OkEv γ.nodes γ.arcs.length x
 nd:xs.Pairwise fun a b=> ¬qm b a
 hd:tH γ.arcs xs
theorem EvK.nil{a:Gra}:EvK a []:=⟨by simp,by simp,.nil,fun i b=>by simp at b⟩
theorem seek_evK{c:Gra}(b:Good c)(d:s<c.nodes){r:Fd}(e:Ends c.arcs al pi to (jY pi s) r):EvK c (r.ev.map toE2)/\r.arcs.length<=12:=by have i:=b.n2;have f: ∀a∈c.arcs,a.t<c.nodes/\a.w<=cg:=fun a j=>(b.arcs a j).2;obtain⟨O,h⟩:=seek_EvO f d e;have g:=b.many;have k:=ends_len f i (by omega) e (xf d) (by unfold jY;rw [vf];exact Xe _);exact⟨⟨by rw [XR];omega,h.ok,h.nd,h.hd⟩,k.1⟩
theorem sl_toE2{v:Value}{l:List Ev}(s:aw h 4 iM v l):aw h 4 dz v (l.map toE2):=by
 rcases s with⟨a,b⟩|⟨b,o,p,c,d,e,f⟩
 . exact .inl ⟨a,by rw [b];rfl⟩
 . refine .inr ⟨b,o,p,c,by rw [XR];exact d,by rw [XR];exact e,?_⟩;rw [XR,f,List.flatMap_map];rfl
theorem seek_any{b:Gra}(c:Good b)(d:s<b.nodes){r:Fd}(e:Ends b.arcs al pi to (jY pi s) r)(f:r.dist<FAR):jB b.arcs s r.arcs to r.dist:=
 ends_path (fun a g=>(c.arcs a g).2) e (xf d) f
theorem ends_lenB(c:N<=12)(d: ∀a∈A,a.s<N/\a.t<N/\a.w<=cg)(q:A.length<=100)(e:j7 A al pi σ τ):BiI A N rt al pi σ->σ.ev.length<=200*((σ.sd false).O.length+(σ.sd true).O.length)->τ.ev.length<=4800:=by
 induction e with
 | @stop σ _=>intro I h;have r:=(I.sv false).len;have s:=(I.sv true).len;omega| @step σ τ i v k t f _ g=>
   intro I h;obtain⟨j,b⟩:=wU c d I f.1;have m:(iz A al pi i v (cG σ i v)).ev.length<=σ.ev.length+200:=by
    have evS: ∀(l:List Nat) (σ:Bi),(l.foldl (eo A al pi i v) σ).ev.length<=σ.ev.length+l.length:=by
     intro l
     induction l with
     |nil=>grind| cons a l n=>grind[eo,uZ,evB,XP]
    grind[evS,outs,fsB,cG,jQ,iz]
   have o:=b.O;have p:=b.ot;rw [clo_b]at o;rw [clo_n]at p;refine g j ?_;cases i
   . grind
   grind
theorem twin_evK{b:Gra}(c:Good b)(e:s<b.nodes)(f:w<b.nodes)(g:j7 b.arcs al pi (kU pi s w) τ):EvK b τ.ev:=by have d:=c.n2;have i: ∀a∈b.arcs,a.s<b.nodes/\a.t<b.nodes/\a.w<=cg:=c.arcs;have h:=twin_EvO d i e f g;have j:=c.many;have k:=ends_lenB d i (by omega) g (wX d e f) (by rw [xQ];exact Xe _);exact⟨by omega,h.ok,h.nd,h.hd⟩
theorem twin_any{b:Gra}(c:Good b)(e:s<b.nodes)(f:w<b.nodes)(g:j7 b.arcs (fun _=>true) pi (kU pi s w) τ)(h:τ.dist<FAR):jB b.arcs s (qq τ) w τ.dist/\(qq τ).length<=1000:=by have d:=c.n2;have i: ∀a∈b.arcs,a.s<b.nodes/\a.t<b.nodes/\a.w<=cg:=c.arcs;obtain⟨j,k⟩:=EP (ends_I d i g (wX d e f)) h;exact⟨j,by omega⟩
section
variable{γ:Gra}{l:List Int}{R Q:Nat->List Int}{cf Bt:Nat->Nat}{k s w:Nat}{a c d:Int}{h:Hp}{vA vB vE:Value}
def WalkX(h:Hp)(γ:Gra)(s w:Nat)(c d:Int)(vA vB vE:Value):Prop:=
 ((c=20/\d=0/\vA=.slice none 0 0/\vB=.slice none 0 0)\/(c=0/\ ∃(D:Nat) (b:List Nat),d=(D:Nat)/\D<FAR/\aw h 1 bM vA b/\Fl vB/\b.length<=1000/\jB γ.arcs s b w D))/\ ∃e,aw h 4 dz vE e/\EvK γ e
theorem AnsS.walk{b:List Nat}(f:Good γ)(g:s<γ.nodes)(o:AnsS γ als pis b s w h c d vA vB vE):WalkX h γ s w c d vA vB vE:=by
 obtain⟨t,i,m,n⟩:=o;have p:=seek_evK f g i;refine⟨?_,_,sl_toE2 m,p.1⟩;rcases n with⟨_,e⟩|⟨j,rfl,rfl,q,r⟩
 . exact .inl e
 . exact .inr ⟨rfl,_,_,rfl,j,q,r.fl,by omega,seek_any f g i j⟩
theorem AnsD.walk{b:List Nat}(f:Good γ)(g:s<γ.nodes)(i:w<γ.nodes)(o:AnsD γ pis b s w h c d vA vB vE):WalkX h γ s w c d vA vB vE:=by
 obtain⟨v,j,n,p⟩:=o;refine⟨?_,_,n,twin_evK f g i j⟩;rcases p with⟨_,e⟩|⟨m,rfl,rfl,q,r⟩
 . exact .inl e
 . obtain⟨t,u⟩:=twin_any f g i j m;exact .inr ⟨rfl,_,_,rfl,m,q,r.fl,u,t⟩
theorem qJ.walk(b:Good γ)(e:s<γ.nodes)(f:w<γ.nodes)(o:qJ γ l R Q cf Bt k s w a h c d vA vB vE):WalkX h γ s w c d vA vB vE:=by
 unfold qJ at o
 split at o<;>first|exact AnsS.walk b e o|exact AnsD.walk b e f o
end
theorem D9(l:OZ h0){g i:Value}(p:Fl d)(q:Fl f)(r:Fl g)(s:Fl i){c:Int}(m:c≠0):aQ zM 23 [pn,.agg ⟨[d,f,g,i]⟩,ow c 0 (.slice none 0 0) (.slice none 0 0)] h0 (.bool true):=by have S:=Si l;refine erA (n:=48) (rs:=[.tmp 6]) e23 ?_;simp only [BZ,ow,seval];refine ab (aW (by intro x e;cases e)) S ?_;clear S;intro h t S j;simp only [ac]at S;simp only [BZ,if_false,seval];refine ab (aW (by intro x e;cases e)) S ?_;clear S;intro h a S k;simp only [ac]at S;simp only [BZ,aa,zO,m,S.ld (b:=a) (o:=0) m0 rfl,S.ld (b:=a) (o:=1) m0 rfl,S.ld (b:=a) (o:=2) m0 rfl,S.ld (b:=a) (o:=3) m0 rfl,seval];exact S.gr
theorem Ef(y:OZ h0){f:Gra}(i:Good f){A B C:Value}(R:Row h0 b [ptrTo k,A,B,C] 1)(D:aP h0 z (ptrTo k) f){l m:Value}{a:List Nat}{d:Nat}(J:Fl l)(K:Fl m)(E:s<f.nodes)(u:aw h0 1 bM vA a)(L:Fl p)(F:a.length<=1000)(G:jB f.arcs s a t d):aQ zM 23 [ptrTo b,.agg ⟨[l,.int .i64 (s:Nat),.int .i64 (t:Nat),m]⟩,ow 0 (d:Nat) vA p] h0 (.bool true):=by have S:=Si y;have M:=u.fl;have H:=R.load1 (o:=0) rfl;refine erA (n:=48) (rs:=[.tmp 6]) e23 ?_;simp only [BZ,ow,seval];refine ab (aW (by intro x e;cases e)) S ?_;clear S;intro h g S v;simp only [ac]at S;simp only [BZ,if_false,seval];refine ab (aW (by intro x e;cases e)) S ?_;clear S;intro h c S w;simp only [ac]at S;have j:=S.gr.load H;simp only [BZ,S.ld (b:=c) (o:=0) m0 rfl,seval];refine ao (av rfl) (q:=0) (ps:=[]) (by kernel_rfl) ?_;simp only [BZ,cls,j,S.ld (b:=g) (o:=1) m1 rfl,S.ld (b:=g) (o:=2) m1 rfl,S.ld (b:=c) (o:=0) m0 rfl,S.ld (b:=c) (o:=1) m0 rfl,S.ld (b:=c) (o:=2) m0 rfl,seval];refine bO (Cm S.ok i (D.gr S.gr) E (u.gr S.gr) F G (t:=t) (.inl rfl)) ?_;rintro r N ⟨I,rfl⟩;replace S:=S.call I;simp only [BZ,cls,aa,S.ld (b:=g) (o:=1) m1 rfl,S.ld (b:=g) (o:=2) m1 rfl,S.ld (b:=c) (o:=0) m0 rfl,S.ld (b:=c) (o:=1) m0 rfl,S.ld (b:=c) (o:=2) m0 rfl,seval];exact S.gr
theorem Fj(a:OZ h0):aQ zM 7 [] h0 (.bool true):=ret_orc rfl ⟨rfl,Gr.refl a⟩
theorem SlW.grN{kd:IntKind}{v:Value}(s:SlW h kd v l)(g:Gr h h'):SlW h' kd v l:=s.imp (fun h=>h) (fun⟨b,o,c,e,a,d⟩=>⟨b,o,c,e,a,g.load d⟩)
theorem queryI_ok(u:OZ h0){k l m:Value}{f:Nat}{way a:Int}(hf:f<=255)(C:t<=255)(D:1<=N)(v:N<=1000)(E:Fl j)(F:Fl k)(G:Fl l)(H:Fl m)(e4:Fl p):aQ zM 12 [.agg ⟨[j,k,l,m,p,.int .u8 (f:Nat),.int .u8 (t:Nat),.int .i8 a]⟩,.int .i64 (N:Nat),.int .i64 way] h0 (.agg ⟨[.int .i64 way,.int .i64 ((f%N:Nat):Int),.int .i64 ((t%N:Nat):Int),.int .i64 (am .i64 a)]⟩):=by
 have S:=Si u;have w:am .i64 (f:Int)=(f:Int):=by rw [wrap64]<;>omega
 have y:am .i64 (t:Int)=(t:Int):=by rw [wrap64]<;>omega
 have z:(N:Int)≠0:=by omega
 have c:(f:Int).tmod (N:Int)=((f%N:Nat):Int):=by rw [Xn (by omega)];exact(XK _ _).symm
 have d:(t:Int).tmod (N:Int)=((t%N:Nat):Int):=by rw [Xn (by omega)];exact(XK _ _).symm
 refine erA (n:=22) (rs:=[.cell 6 48]) e12 ?_;simp only [BZ,seval];refine ab (aW (by intro x e;cases e)) S ?_;clear S;intro h g S r;simp only [ac]at S;simp only [BZ];refine ab au S ?_;clear S;intro h A S s;simp only [BZ];refine ao (av rfl) (q:=0) (ps:=[]) (by kernel_rfl) ?_;simp only [BZ,jJ,cZ,jM,cls,w,y,j8 z,c,d,S.ld (b:=g) (o:=5) m1 rfl,S.ld (b:=g) (o:=6) m1 rfl,S.ld (b:=g) (o:=7) m1 rfl,seval];refine cJ (stA S (i:=0) Tryz.t7.2.1) ?_;clear S;rintro h ⟨S,B⟩;clear B;simp only [LC,ac,lay,Xc,Xd,seval]at S;simp only [BZ,aa,seval];refine(bD (by decide) (by simp only [aD,ah,seval];exact bI t48.1 t48.2.1 (S.lds (b:=A) (o:=0) (n:=4) m0 (lbt rfl)))).2 ?_;exact cu.2 ⟨rfl,S.gr⟩
def oq(a b:Bool)(k:Nat):Bool:=(!tw k||a)&&(!cw k||b)
theorem eJ.keep{d e:Nat}(f:OZ h)(m:eJ h d e a b c B)(g:eZ h h'):eJ h' d e a b c B:=⟨g.row f m.r,g.row f m.b,m.lt⟩
theorem nj.keep{h h':Hp}{b:Nat}{I:Img}{t u:Prop}(d:OZ h)(y:nj h b I t u)(g:eZ h h'):nj h' b I t u:=by
 obtain⟨l,z,A,D,E,G,R,H,i,j⟩:=y;refine⟨l,z,A,D,E,G,g.row d R,H.keep d g,?_,?_⟩
 . cases w:I.T with
   |none=>rw [w]at i;exact i| some T=>
     rw [w]at i;obtain⟨⟨m,a,b⟩,c⟩:=i;exact⟨⟨m,a,b.keep d g⟩,c⟩
 . cases x:I.C with
   |none=>rw [x]at j;exact j| some C=>
     obtain⟨m,F⟩:=C;rw [x]at j;obtain⟨⟨k,n,o,e,f,B,⟨J,v,K,r,s,L,M⟩,N,O,P,Q,S⟩,U,V,W,X,Y,Z,Bt,e1,e2,p,q,hM,bm,oB⟩:=j;exact⟨⟨k,n,o,e,f,B,⟨J,v,K,g.row d r,s.keep d g,L,M⟩,N,O,P,Q.keep d g,S⟩,U,V,W,X,Y,Z,Bt,e1,e2,p.keep d g,q,hM,bm.keep d g,oB⟩
theorem FN(p:OZ h0)(m:Gr hq h0){P Q:Prop}(U:nj hq b I P Q)(V:h0.load b1 0 1=some [ptrTo b]):lz zM 156 [] [ptrTo b1] h0 (fun c=>c=b1\/c<hq.n) (((Xk 6).filter (oq I.T.isSome I.C.isSome)).map fun(v:Nat)=>[.int .i64 (v:Nat)]):=by
 intro lb J Z hz Y h F s d;have D: ∀{h:Hp} {F:List Nat},ItS h0 (fun c=>c=b1\/c<hq.n) h F->nj h b I P Q:=fun s=>U.keep m.ok0 (s.keep m.keep m.n (fun c E=>.inr E));have toR: ∀{h:Hp} {F:List Nat},ItS h0 (fun c=>c=b1\/c<hq.n) h F-> ∀{l},Row hq b l 1->Row h b l 1:=fun s _ r=>(s.keep m.keep m.n (fun c E=>.inr E)).row m.ok0 r;have G:=U;obtain⟨af,bp,pt,pc,pf,nb,R,hn,u,z⟩:=G;have H:PtrB pt I.T.isSome:=by
  cases W:I.T with
  |none=>rw [W]at u;exact .inr ⟨rfl,u⟩|some T=>rw [W]at u;obtain⟨⟨_,_,x⟩,_⟩:=u;obtain⟨y,_,_,_,e,_⟩:=x.ex;exact .inl ⟨rfl,y,e⟩
 have K:PtrB pc I.C.isSome:=by
  cases X:I.C with
  |none=>rw [X]at z;exact .inr ⟨rfl,z.1⟩|some C=>rw [X]at z;obtain⟨_,_,_,y,_,_,_,_,e,_⟩:=z;exact .inl ⟨rfl,y,e⟩
 have A:=s.load p V (.inl rfl);refine enA (n:=23) (rs:=[]) e156 ?_;simp only [BZ,A,seval];refine ae (yw s.ok (D s).at) ?_;intro h2 g;simp only [BZ,seval];refine step_ret (all_ok g.ok) ?_;rintro _ q ⟨L,j,k,rfl,y1,y2,z1,z2⟩;replace s:=(s.gr g).gr L;replace d:=Y.gr _ _ _ _ (Y.gr _ _ _ _ d g) L;clear g L A y1 y2 z1 z2;simp only [BZ];refine aX (fun(i:Nat) t h=>i<=6/\ ∃F,ItS h0 (fun c=>c=b1\/c<hq.n) h F/\J ((Xk i).filter (oq I.T.isSome I.C.isSome)).length h F/\t 0=.func (.yield lb) #[] #[]/\t 1=ptrTo b1/\t 8=.agg ⟨dg j k 0++(dg j k 1++(dg j k 2++(dg j k 3++(dg j k 4++dg j k 5))))⟩/\t 9=.int .i64 i) (fun i=>6-i) ?_ 0 _ _ ?_
 . clear s d F h h2 q;intro i ih t h ⟨hi,F,s,d,r0,r1,r8,r9⟩;have w:am .i64 ((i:Int)+1)=((i+1:Nat):Int):=(by rw [wrap64]<;>omega);by_cases hlt:i<6
   . have M:((i:Int)<6)=True:=eq_true (by omega);have S:=Si s.ok;simp only [BZ,r8,r9,M,Ad hlt,seval];refine ab au S ?_;clear S;intro h b4 S ad;simp only [BZ,seval];refine az (stA S (i:=0) t126.2.1 (by simp only [ac,dg,wayV,XA,XD,fw_fl.2.1,Xa];rfl)) ?_;clear S;rintro h ⟨S,mo⟩;simp only [dg,wayV]at S;simp only [LC,ac,lay,Xc,Xd,seval]at S;clear mo;have l4:=(S.row (b:=b4) m0).load (o:=0) (n:=3) (Xz 3);simp only [Xp,Xi,Xv]at l4;have gS:=S.gr;replace s:=s.gr gS;replace d:=Y.gr _ _ _ _ d gS;have A:=s.load p V (.inl rfl);simp only [BZ,r1,l4,A,seval];have hH:=hasB_ok (f:=fw j k i) (x:=tw i) (y:=cw i) s.ok (toR s R) H K fw_fl;unfold wayV at hH;refine ae hH ?_;intro h2 g;replace d:=Y.gr _ _ _ _ d g;replace s:=s.gr g;obtain⟨hb,B⟩: ∃x,oq I.T.isSome I.C.isSome i=x:=⟨_,rfl⟩;have N:((!tw i||I.T.isSome)&&(!cw i||I.C.isSome))=hb:=B;rw [N];cases hb with
     | true=>
       have hx:(((Xk 6).filter (oq I.T.isSome I.C.isSome)).map fun(v:Nat)=>[Value.int .i64 (v:Nat)])[((Xk i).filter (oq I.T.isSome I.C.isSome)).length]? =some [.int .i64 (i:Nat)]:=(by rw [Yh,tG B _ hlt];rfl);have O:((Xk (i+1)).filter (oq I.T.isSome I.C.isSome)).length=((Xk i).filter (oq I.T.isSome I.C.isSome)).length+1:=(by rw [jk,if_pos B];simp);simp only [BZ,r0,seval];refine c7 Y s d (i:=((Xk i).filter (oq I.T.isSome I.C.isSome)).length) hx ?_ ?_ ?_
       . intro q F3 a s3 _ _;simp only [BZ,r9,w,seval];exact ih (i+1) _ _ (by omega) ⟨by omega,F3,s3,by rw [O];exact a,by simp [aB,r0,r1,ah,r8]⟩
       . intro q a _;simp only [BZ,seval];exact gJ rfl ⟨rfl,.inr (.inl ⟨_,rfl,a⟩)⟩
       . intro v q a;exact absurd a (hz v q)
     | false=>have O:(Xk (i+1)).filter (oq I.T.isSome I.C.isSome)=(Xk i).filter (oq I.T.isSome I.C.isSome):=(by rw [jk,if_neg (by rw [B];decide)];simp);simp only [BZ,r9,w,seval];exact ih (i+1) _ _ (by omega) ⟨by omega,F,s,by rw [O];exact d,by simp [aB,r0,r1,ah,r8]⟩
   . have M:((i:Int)<6)=False:=eq_false (by omega);simp only [BZ,r9,M,seval];have:i=6:=(by omega);subst this;exact bU (cy ⟨rfl,_,rfl,rfl,.inl ⟨_,F,rfl,by simpa using d⟩⟩)
 . exact⟨Xe _,F,s,d,by simp [aB,cL,ah]⟩
theorem ways_ok(d:OZ h0){i j:Prop}(k:nj h0 b I i j):Ret zM 20 [ptrTo b] h0 fun r h'=>Gr h0 h'/\aw h' 1 bM r ((Xk 6).filter (oq I.T.isSome I.C.isSome))/\ ∀c,ar r c->h0.n<=c:=by
 have l:Ret zM 65 [ptrTo b] h0 fun r h'=>Gr h0 h'/\ ∃a,r=.func (.func 156) #[] #[ptrTo a]/\h'.load a 0 1=some [ptrTo b]:=by have S:=Si d;refine erA (n:=4) (rs:=[.tmp 2]) e65 ?_;simp only [BZ,seval];refine ab (bz (by exact bA)) S ?_;clear S;intro h a S e;simp only [BZ,aa,seval];exact⟨S.gr,a,rfl,S.ld m0 rfl⟩
 have S:=Si d;refine erA (n:=6) (rs:=[.tmp 2]) e20 ?_;simp only [BZ,seval];refine step_ret l ?_;rintro _ h ⟨g,a,rfl,m⟩;simp only [BZ,seval];have o:((Xk 6).filter (oq I.T.isSome I.C.isSome)).length<100000:=Nat.lt_of_le_of_lt (List.length_filter_le _ _) (by rw [List.length_range];omega);refine step_ret (sT g.ok (iter_w (FN g.ok g k m)) (fun _ h=>h.elim) o) ?_;rintro v p ⟨f,G,q⟩;have s:aw p 1 bM v ((Xk 6).filter (oq I.T.isSome I.C.isSome)):=G.sl rfl (fun _=>rfl) (by decide);simp only [BZ,aa,seval];exact⟨g.trans f.gr,s,fun c t=>Xj g.n (q c t)⟩
def tV(kk:Nat)(i:Bool)(a:List Ev2)(k:Nat):Option (Nat×Ev2):=match a[k]? with
 |some e=>if e.kind=kk/\e.side=i then some (k,e)else none
 |none=>none
def iD(kk:Nat)(i:Bool)(a:List Ev2)(n:Nat):List (Nat×Ev2):=(Xk n).filterMap (tV kk i a)
theorem oX(kk:Nat)(i:Bool)(a:List Ev2)(n:Nat):iD kk i a (n+1)=iD kk i a n++(tV kk i a n).toList:=by unfold iD;rw [Yv,List.filterMap_append];cases h:tV kk i a n<;>simp [h]
theorem popP4_at{b:Bool}{a:List Ev2}{i:Nat}{x:Nat×Ev2}(h:tV kk b a i=some x): ∀n,i<n->(iD kk b a n)[(iD kk b a i).length]? =some x:=by
 intro n
 induction n with
 |zero=>intro c;omega| succ n d=>
   intro c;rw [oX];by_cases e:i<n
   . have:=d e;rw [List.getElem?_append_left (List.getElem?_eq_some_iff.1 this).1];exact this
   . have:i=n:=(by omega);subst this;rw [List.getElem?_append_right (Xz _),h];simp
def zu(p:Nat×Ev2):List Value:=[.int .i64 (p.1:Nat),.agg ⟨dz p.2⟩]
theorem xt(e:OZ h0)(f:Fl vE):Ret zM 73 [vE,.int .i64 (kk:Nat),.int .i64 (dk sd:Nat)] h0 fun v h'=>Gr h0 h'/\ ∃b1 b2 a,v=.func (.func 162) #[] #[ptrTo b1,ptrTo b2,ptrTo a]/\h0.n<=b1/\h0.n<=b2/\h0.n<=a/\h'.load b1 0 1=some [vE]/\h'.load b2 0 1=some [.int .i64 (kk:Nat)]/\h'.load a 0 1=some [.int .i64 (dk sd:Nat)]:=by have S:=Si e;refine erA (n:=8) (rs:=[.tmp 6]) e73 ?_;simp only [BZ,seval];refine ab (bz (by assumption)) S ?_;clear S;intro h b1 S b;simp only [BZ,if_false,seval];refine ab (bz (by exact aM)) S ?_;clear S;intro h b2 S c;simp only [BZ,if_false,seval];refine ab (bz (by exact aM)) S ?_;clear S;intro h a S d;simp only [BZ,aa,seval];exact⟨S.gr,b1,b2,a,rfl,b,c,d,S.ld m2 rfl,S.ld m1 rfl,S.ld m0 rfl⟩
theorem of1_it4(f:OZ h0){d:List Ev2}(y:aw h0 4 dz vE d)(X:d.length<1000000){l:Nat}(K:h0.load b1 0 1=some [vE])(L:h0.load b2 0 1=some [.int .i64 (kk:Nat)])(M:h0.load l 0 1=some [.int .i64 (dk sd:Nat)]):lz zM 162 [] [ptrTo b1,ptrTo b2,ptrTo l] h0 (fun c=>c=b1\/c=b2\/c=l\/ar vE c) ((iD kk sd d d.length).map zu):=by
 intro N J Z O Y h F s m;have G:=s.load f K (.inl rfl);have fE:=y.fl;refine enA (n:=32) (rs:=[]) e162 ?_;simp only [BZ,G,y.lenq,seval];refine aX (fun(i:Nat) g h=>i<=d.length/\ ∃F,ItS h0 (fun c=>c=b1\/c=b2\/c=l\/ar vE c) h F/\J (iD kk sd d i).length h F/\g 0=.func (.yield N) #[] #[]/\g 1=ptrTo b1/\g 2=ptrTo b2/\g 3=ptrTo l/\g 7=vE/\g 8=.int .i64 (d.length:Nat)/\g 9=.int .i64 i) (fun i=>d.length-i) ?_ 0 _ _ ?_
 . clear G s m F h;intro i z g h ⟨hi,F,s,m,r0,r1,r2,r3,r7,r8,r9⟩;have w:am .i64 ((i:Int)+1)=((i+1:Nat):Int):=(by rw [wrap64]<;>omega);by_cases hlt:i<d.length
   . have P:=s.load f L (.inr (.inl rfl));have Q:=s.load f M (.inr (.inr (.inl rfl)));obtain⟨c,o,R,u⟩:=(s.sl f y (fun b h=>.inr (.inr (.inr h)))).ix (kd:=.i64) sj hlt;have S:=Si s.ok;obtain⟨e,H⟩: ∃e,d[i]=e:=⟨_,rfl⟩;rw [H]at u;have j:tV kk sd d i=if e.kind=kk/\e.side=sd then some (i,e)else none:=by unfold tV;rw [Xg hlt,H]
     obtain⟨kd,p,id,q⟩:=e;replace u:h.load c o 4=some [.int .i64 kd,.int .i64 (dk p:Nat),.int .i64 id,.int .i64 q]:=u;simp only []at j;simp only [BZ,r7,r8,r9,aE,hlt,R,u,seval];refine ab au S ?_;clear S;intro h k S I;simp only [BZ,seval];refine az (stA S (i:=0) t143.2.1) ?_;clear S;rintro h ⟨S,T⟩;clear T;simp only [LC,ac,lay,Xc,Xd,seval]at S;have A:=s.gr S.gr;have B:=Y.gr _ _ _ _ m S.gr;have m2:=S.gr.load P;have m3:=S.gr.load Q;by_cases C:kd=kk
     . have x:(kd:Int)=(kk:Int):=(by omega);by_cases r:p=sd
       . have D:((dk p:Nat):Int)=((dk sd:Nat):Int):=(by rw [r]);rw [if_pos ⟨C,r⟩]at j;have U:((iD kk sd d d.length).map zu)[(iD kk sd d i).length]? =some [.int .i64 (i:Nat),.agg ⟨[.int .i64 (kk:Nat),.int .i64 (dk sd:Nat),.int .i64 id,.int .i64 q]⟩]:=(by rw [Yh,popP4_at j _ hlt,C,r];rfl);have t:(iD kk sd d (i+1)).length=(iD kk sd d i).length+1:=(by rw [oX,j];simp);simp only [BZ,r0,r2,r3,x,D,m2,m3,S.ld (b:=k) (o:=0) m0 rfl,S.ld (b:=k) (o:=1) m0 rfl,S.lds (b:=k) (o:=0) (n:=4) m0 (lbt rfl),seval];refine c7 Y A B (i:=(iD kk sd d i).length) U ?_ ?_ ?_
         . intro E V a W _ _;simp only [BZ,r9,w,seval];exact z (i+1) _ _ (by omega) ⟨by omega,V,W,by rw [t];exact a,by simp [aB,r0,r1,ah,r2,r3,r7,r8]⟩
         . intro E a _;simp only [BZ,seval];exact gJ rfl ⟨rfl,.inr (.inl ⟨_,rfl,a⟩)⟩
         . intro v E a;exact absurd a (O v E)
       . have D: ¬((dk p:Nat):Int)=((dk sd:Nat):Int):=fun e=>r (by cases p<;>cases sd<;>first|rfl|(exact absurd e (by decide)));rw [if_neg (fun h=>r h.2)]at j;have t:iD kk sd d (i+1)=iD kk sd d i:=(by rw [oX,j];simp);simp only [BZ,r2,r3,r9,x,D,m2,m3,w,S.ld (b:=k) (o:=0) m0 rfl,S.ld (b:=k) (o:=1) m0 rfl,seval];exact z (i+1) _ _ (by omega) ⟨by omega,F,A,by rw [t];exact B,by simp [aB,r0,r1,ah,r2,r3,r7,r8]⟩
     . have x: ¬(kd:Int)=(kk:Int):=(by omega);rw [if_neg (fun h=>C h.1)]at j;have t:iD kk sd d (i+1)=iD kk sd d i:=(by rw [oX,j];simp);simp only [BZ,r2,r9,x,m2,w,S.ld (b:=k) (o:=0) m0 rfl,S.ld (b:=k) (o:=1) m0 rfl,seval];exact z (i+1) _ _ (by omega) ⟨by omega,F,A,by rw [t];exact B,by simp [aB,r0,r1,ah,r2,r3,r7,r8]⟩
   . simp only [BZ,r8,r9,aE,hlt,seval];have:i=d.length:=(by omega);subst this;exact bU (cy ⟨rfl,_,rfl,rfl,.inl ⟨_,F,rfl,by simpa using m⟩⟩)
 . exact⟨Xe _,F,s,m,by simp [aB,cL,ah]⟩
theorem EA(c:OZ h0):aQ zM 74 [.agg ⟨dz e⟩] h0 (.int .i64 (e.id:Nat)):=by have S:=Si c;refine erA (n:=5) (rs:=[.tmp 2]) e74 ?_;simp only [BZ,dz,seval];refine ab (aW (by intro x e;cases e)) S ?_;clear S;intro h d S a;simp only [ac]at S;simp only [BZ,aa,S.ld (b:=d) (o:=2) m0 rfl,seval];exact S.gr
theorem Dv(ok:OZ h0){ps:List (Nat×Ev2)}(it:lz zM g [] post.toList h0 D (ps.map zu))(hl:ps.length<=1000000):Ret zM 72 [.func (.func g) #[] post,.func (.func 74) #[] #[]] h0 fun r h'=>Gr h0 h'/\aw h' 1 bM r (ps.map (·.2.id))/\ ∀c,ar r c->h0.n<=c:=by
 have S:=Si ok;refine erA (n:=17) (rs:=[.cell 4 41]) e72 ?_;simp only [BZ,seval];refine ab (bz (by exact dI)) S ?_;clear S;intro h s S K;simp only [BZ];refine ab au S ?_;clear S;intro h f S M;simp only [BZ,if_false,seval];replace S:=S.nilG (k:=1);refine gP S (g:=g) (a:=#[]) (b:=post) (by simp [bw,aB,ah]) rfl rfl ?_;intro N z u l ad af g2;obtain⟨X,O,l⟩: ∃X:fF,X=_/\St NoM h0 N [(u,.loop X),(z,.dfr),(f,.row [.slice none 0 0] 1),(s,.row [.func (.func 74) #[] #[]] 1)] [(.slice none 0 0,1,[])]:=⟨_,rfl,l⟩;have hJ:Yld zM u (fun k h' F=> ∃(d:Value),St NoM h0 h' [(u,.loop X),(z,.dfr),(f,.row [d] 1),(s,.row [.func (.func 74) #[] #[]] 1)] [(d,1,fe ((ps.take k).map (·.2.id)))]/\k<=ps.length/\F=keys [(u,.loop X),(z,.dfr),(f,.row [d] 1),(s,.row [.func (.func 74) #[] #[]] 1)] [(d,1,fe ((ps.take k).map (·.2.id)))]) (fun _ _=>False) (ps.map zu):=by
  refine⟨?_,?_,fun _ _ h=>h.elim,?_⟩
  . rintro i h F ⟨d,S,_,rfl⟩;exact⟨S.ok,fun b t=>S.key_lt t⟩
  . rintro i h F h' ⟨d,S,a,rfl⟩ gg;exact⟨d,S.call gg,a,rfl⟩
  . rintro i x hR F B ⟨d,S,a,rfl⟩;have v:i<ps.length:=(by have:=(List.getElem?_eq_some_iff.1 B).1;simpa using this);rw [Yh,Xg v]at B;cases B;have C:fe ((ps.take (i+1)).map (·.2.id))=fe ((ps.take i).map (·.2.id))++[.int .i64 (ps[i].2.id:Nat)]:=(by rw [Xy v,XW];unfold fe;rw [XW];rfl);have tl:(fe ((ps.take i).map (·.2.id))).length<=i:=(by rw [mN,XR,X6];omega);generalize ps[i]=p at C;obtain⟨j,⟨kd,sd,id,E⟩⟩:=p;simp only []at C;have ai:Fl d:=(S.gown _ m0).1.fl;have ak:f≠s:=(by have G:=S.apart;unfold keys at G;simp only [Xm,Xt,XL,XV,Xw,not_or]at G;exact G.2.2.1.1);subst O;refine gK (S.get m0) (by rw [e72];rfl) rfl ?_;have S0:=S;replace S:=S.base;simp only [BZ,dz];refine ab au S ?_;clear S;intro h P S Q;simp only [BZ,seval];refine az (stA S (i:=0) t143.2.1) ?_;clear S;rintro h ⟨S,_⟩;simp only [LC,ac,lay,Xc,Xd,seval]at S;simp only [BZ];refine fG S (i:=1) rfl rfl rfl rfl rfl ?_;clear S;intro h S;simp only [LC]at S;have z3:=(S.row (b:=s) m4).lt S.ok;have z4:=(S.row (b:=f) m3).lt S.ok;have z6:=(S.row (b:=P) m0).lt S.ok;simp only [BZ];refine ao (av rfl) (q:=16) (ps:=[(0,3)]) (by kernel_rfl) ?_;simp only [BZ,cls,S.ld (b:=f) (o:=0) m3 rfl,S.ld (b:=s) (o:=0) m4 rfl,S.lds (b:=P) (o:=0) (n:=4) m0 (lbt rfl),seval];refine bj (EA S.ok (e:=⟨kd,sd,id,E⟩)) ?_;intro H A;have R:=ag A z3;have U:=ag A z4;have V:=ag A z6;replace S:=S.call A;simp only [BZ,cls,seval];refine cV (bZ (by exact t41.1) (by exact XI) (by decide) (by rfl)) S ?_;clear S;intro h W S Y Z;simp only [LC,bJ,cd,ac,XJ,Xs,XE,XO,seval]at S;simp only [BZ,cls,seval];have w:aR h 1 (.slice (some ⟨W,0,none⟩) 1 1)=some (1,[.int .i64 (id:Nat)]):=(by simp only [aR];rw [S.lds (b:=W) (o:=0) (n:=1*1) m0 (lbt rfl)];rfl);replace S:=S.drop1;refine lu (S.grow (j:=0) (m:=1) (new:=[.int .i64 (id:Nat)]) rfl t41.1 XI (by decide) t41.2.2.2.2.2 w rfl (by decide) rfl (by rw [mN];simp;omega)) ?_;clear S w;rintro h v' S;simp only [LC]at S;have I:Fl v':=(S.gown _ m0).1.fl;simp only [BZ,cls,seval];refine cJ (aA S (i:=3) rfl t41.2.2.1 I (Xb (lbt rfl)) ono) ?_;clear S;rintro h ⟨S,_⟩;simp only [LC]at S;simp only [BZ,seval];refine⟨by simp only [aI,aO,aF,aK,aH,ne_eq,not_false_eq_true,aU,aY,aN,aJ,bw,bN,aD,Xa,ah,aq R,aq U,aq V,an R,an U,an V,seval],?_⟩;refine dC S (i:=1) rfl ?_;clear S;intro h S;simp only [LC]at S;rw [<-C]at S;exact .inl ⟨rfl,_,⟨v',S0.rebase S.drop1,by omega,rfl⟩,S.fr,S.drop1.key_new⟩
 refine dh (it u _ _ (fun _ _ h=>h) hJ N _ ?_ ⟨_,l,Xe _,rfl⟩) fun o rc h' y=>iJ y ?_
 . refine⟨l.ok,l.fr.n,fun b t _=>l.gr.get b t,fun b t h=>?_,fun b t=>l.key_lt t⟩;rcases l.key_own t with H|H
   . omega
   . exact H
 . rintro F ⟨d,T,b,rfl⟩;rw [XR,XZ]at T;subst O;refine⟨_,T.get m0,Nat.zero_ne_one,?_⟩;replace T:=T.dead;have S:=T;show Run _ _ _ _ _ _ _ _;simp only [BZ,S.ld (b:=f) (o:=0) m1 rfl,seval];have fv:Fl d:=(T.gown _ m0).1.fl;clear S;refine az (aA T (i:=1) rfl t41.2.2.1 fv (Xb (lbt rfl)) ono) ?_;clear T;rintro h3 ⟨T,_⟩;simp only [Ya,Yp]at T;simp only [BZ];refine df (gm [z] _ (L:=[(f,_),(s,_)]) T.base fun h4 J=>?_);refine⟨rfl,(bD (by decide) (by simp only [aD,ah,seval];exact iA t41.2.1 (J.ld (b:=f) (o:=0) m0 rfl))).2 (cu.2 ⟨(T.rebase J).gr,(J.gown _ m0).1.sl (tq _).symm dr (by decide),fun c hc=>?_⟩)⟩;rcases(T.gblk m0 hc).1 with h|h
   . exact h
   . exact h.elim
def idsE(kk:Nat)(sd:Bool)(a:List Ev2):List Nat:=(iD kk sd a a.length).map (·.2.id)
theorem popP4_snd(kk:Nat)(sd:Bool)(a:List Ev2): ∀n,n<=a.length->(iD kk sd a n).map (·.2)=(a.take n).filter fun e=>decide (e.kind=kk/\e.side=sd):=by
 intro n
 induction n with
 |zero=>intro _;simp [iD]| succ n b=>
   intro c;rw [oX,XW,b (by omega),Xy (by omega),List.filter_append];congr 1;unfold tV;rw [Xg (by omega)];simp only [List.filter_cons,List.filter_nil];by_cases h:a[n].kind=kk/\a[n].side=sd
   . rw [if_pos h,decide_eq_true h];rfl
   . rw [if_neg h,decide_eq_false h];rfl
theorem ids_eq(kk:Nat)(sd:Bool)(a:List Ev2):idsE kk sd a=(a.filter fun e=>decide (e.kind=kk/\e.side=sd)).map (·.id):=by have h:=popP4_snd kk sd a a.length (Xz _);rw [XZ]at h;rw [<-h,List.map_map];rfl
theorem ids_le{i:Gra}{d:List Ev2}(h:EvK i d)(j: ∀e∈d,e.kind=kk->e.id<N):(idsE kk sd d).length<=N:=by
 rw [ids_eq];refine pM N _ ?_ ?_
 . rw [List.nodup_iff_pairwise_ne,List.pairwise_map];refine(h.nd.filter _).imp_of_mem ?_;intro a b k l m e;have c:=List.mem_filter.1 k;have n:=List.mem_filter.1 l;have f:=of_decide_eq_true c.2;have g:=of_decide_eq_true n.2;exact m ⟨g.1.trans f.1.symm,g.2.trans f.2.symm,e.symm⟩
 . intro x o;obtain⟨e,p,rfl⟩:=List.mem_map.1 o;have c:=List.mem_filter.1 p;exact j e c.1 (of_decide_eq_true c.2).1
theorem AW(kk:Nat)(sd:Bool)(a:List Ev2)(n:Nat):(iD kk sd a n).length<=n:=by unfold iD;exact Xj (List.length_filterMap_le _ _) (by rw [List.length_range];exact Xz _)
theorem BE(d:OZ h0){a:List Ev2}(b:aw h0 4 dz vE a)(e:a.length<1000000):Ret zM 26 [vE,.int .i64 (dk sd:Nat)] h0 fun r h'=>Gr h0 h'/\aw h' 1 bM r (idsE 0 sd a)/\ ∀c,ar r c->h0.n<=c:=by
 have S:=Si d;have f:=b.fl;refine erA (n:=9) (rs:=[.tmp 4]) e26 ?_;simp only [BZ,seval];have i:=xt (kk:=0) (sd:=sd) S.ok f;refine step_ret i ?_;rintro r h ⟨g,j,k,l,rfl,x,y,z,m,o,p⟩;replace S:=S.call g;have A:=g.n;have q:=of1_it4 S.ok (b.gr g) e m o p;simp only [BZ,seval];refine step_ret (Dv S.ok (g:=162) (post:=#[ptrTo j,ptrTo k,ptrTo l]) q (by have:=AW 0 sd a a.length;omega)) ?_;rintro v h ⟨s,t,u⟩;replace S:=S.call s;simp only [BZ,aa,seval];exact⟨S.gr,t,fun c w=>by have:=u c w;omega⟩
theorem Ak(d:OZ h0){a:List Ev2}(b:aw h0 4 dz vE a)(e:a.length<1000000):Ret zM 27 [vE,.int .i64 (dk sd:Nat)] h0 fun r h'=>Gr h0 h'/\aw h' 1 bM r (idsE 1 sd a)/\ ∀c,ar r c->h0.n<=c:=by
 have S:=Si d;have f:=b.fl;refine erA (n:=9) (rs:=[.tmp 4]) e27 ?_;simp only [BZ,seval];have i:=xt (kk:=1) (sd:=sd) S.ok f;refine step_ret i ?_;rintro r h ⟨g,j,k,l,rfl,x,y,z,m,o,p⟩;replace S:=S.call g;have A:=g.n;have q:=of1_it4 S.ok (b.gr g) e m o p;simp only [BZ,seval];refine step_ret (Dv S.ok (g:=162) (post:=#[ptrTo j,ptrTo k,ptrTo l]) q (by have:=AW 1 sd a a.length;omega)) ?_;rintro v h ⟨s,t,u⟩;replace S:=S.call s;simp only [BZ,aa,seval];exact⟨S.gr,t,fun c w=>by have:=u c w;omega⟩
end Go.Ab

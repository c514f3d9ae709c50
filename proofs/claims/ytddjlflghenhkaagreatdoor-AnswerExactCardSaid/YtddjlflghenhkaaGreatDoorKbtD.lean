/- Nets, cells, flags: what the functions do (part 4). -/
import Derived.Test.YtddjlflghenhkaaGreatDoorKbtC
open Go.Ab.Tryz
open Go.Ab.Tryz renaming abEnv->zM
open List renaming range->zO,getD_eq_getElem?_getD->Xa,getElem?_eq_getElem->Xb,getElem_mem->Xe,take_succ_eq_append_getElem->Xf,not_mem_nil->Xg,getElem?_map->Xj,mem_cons->Xk,take->Xm,drop->Xn,length_map->Xp,take_length->Xq,getElem?_append_left->Xr,filterMap_nil->Xs,getElem?_append_right->Xu,map_cons->Xv,mem_append->Xw,append_nil->Xx,map_nil->Xz,perm_append_comm->XB,mem_filter->XD,getElem_of_mem->XE,mem_singleton->XG,set_cons_zero->XH,drop_eq_getElem_cons->XK,map_append->XM,foldl_cons->XN,take_zero->XO,drop_zero->XP,all_cons->XQ,map_congr_left->XR,flatMap_append->XS,filterMap_cons->XT,take_succ_cons->XU,all_nil->XW
open Nat renaming lt_of_lt_of_le->Xc,lt_of_succ_le->Xd,zero_le->Xh,le_trans->Xo,le_refl->Xt,zero_ne_one->Xy,zero_add->XC,add_sub_cancel->XI,add_sub_cancel_left->XL,zero_mul->XV,mul_one->XX,one_mul->XY
open Bool renaming and_true->Xi
open Int renaming toNat_natCast->Xl,eq_ofNat_of_zero_le->XA,le_refl->XF
open Function renaming comp_def->XJ
set_option maxHeartbeats 4000000
set_option linter.defProp false
set_option linter.unusedVariables false
set_option linter.unusedSimpArgs false
namespace Go.Ab
variable{N a b b1 b2 b4 b5 bq d i j k n nb r s t to u v w x y:Nat}
variable{al f:Nat->Bool}
variable{h h' h0 hB hq:Hp}
variable{p pn:Value}
variable{act l m:List Int}
variable{c:Nat->Nat}
variable{B D:Nat->Prop}
variable{γ:Gra}
variable{F xs:List Nat}
variable{g:FuncId}
variable{Q R:Nat->List Int}
variable{okF okT okW okX:Bool}
variable{A:List Arc}
variable{pi:Nat->Int}
variable{σ:SS}
variable{way:Int}
open Go.Proofs
set_option maxRecDepth 10000
section
variable{h0:Hp}{bp bb rows wide long:Nat}{B:Nat->Nat}
theorem xI(e:r<rows)(g:i<wide)(a:rows<=100)(b:wide<=1000)(c:long=(wide+7)/8):
 aq .i64 ((r:Int)*(long:Int))=((r*long:Nat):Int)/\aq .i64 ((i:Int).tdiv 8)=((i/8:Nat):Int)/\aq .i64 (((r*long:Nat):Int)+((i/8:Nat):Int))=((r*long+i/8:Nat):Int)/\(i:Int).tmod 8=((i%8:Nat):Int)/\r*long+i/8<rows*long/\i/8<long/\i%8<8:=by
 have f:long<=126:=by omega
 have h:r*long<=100*126:=Nat.mul_le_mul (by omega) f;have d:i/8<long:=by omega
 have j:r*long+long<=rows*long:=by rw [<-Nat.succ_mul];exact Nat.mul_le_mul_right _ e
 refine⟨by rw [<-Int.natCast_mul,wrap64]<;>omega,?_,by rw [wrap64]<;>omega,rfl,by omega,d,by omega⟩;rw [show(i:Int).tdiv 8=((i/8:Nat):Int)from rfl,wrap64]<;>omega
theorem bSet_ok(w:OZ h0)(m:iB h0 bp bb rows wide long B)(l:bp≠bb)(D:r<rows)(E:i<wide)(b:rows<=100)(d:wide<=1000)(e:long=(wide+7)/8):
 Ret zM 39 [ptrTo bp,.int .i64 (r:Nat),.int .i64 (i:Nat),.bool true] h0 fun v h'=>Mo (· =bb) h0 h'/\v=.bool true/\iB h' bp bb rows wide long (cJ B (r*long+i/8) (setB (B (r*long+i/8)) (i%8))):=by
 obtain⟨F,G,H,I,x,n6,s⟩:=xI D E b d e;have J: ∀{h:Hp} {p:Nat},Gr h0 h->h.load p 0 1=some [.bool true]->p≠bb->Ret zM 99 [ptrTo bp,.int .i64 (r:Nat),.int .i64 (i:Nat),.func (.func 100) #[] #[ptrTo p]] h fun v h'=>Mo (· =bb) h h'/\v=.bool true/\Row h' bb (kI (rows*long) (cJ B (r*long+i/8) (setB (B (r*long+i/8)) (i%8)))) 1:=by
  intro h p g K L;have S:=Si g.ok;have k:=m.gr g;have N: ¬(r:Int)<0:=by omega
  have O: ¬(rows:Int)<=(r:Int):=by omega
  have P: ¬(i:Int)<0:=by omega
  have Q: ¬(wide:Int)<=(i:Int):=by omega
  have T:=k.r.load1 (o:=2) rfl;have U:=k.r.load1 (o:=3) rfl;have V:=k.r.lt g.ok;refine aa (n:=46) (rs:=[.tmp 8]) rfl Tryz.e99 rfl rfl rfl (lbt rfl) ?_;simp only [BZ,N,seval];refine ag (pP S.ok k.bits) ?_;intro h1 t;replace S:=S.call t;simp only [BZ,O,P,seval];refine ag (mV S.ok (k.gr t).bits) ?_;intro W y;replace S:=S.call y;have a:=t.trans y;have X:=a.load T;have Y:=a.load U;simp only [BZ,Q,seval];refine ar (aA rfl) (q:=0) (ps:=[]) (by kernel_rfl) ?_;simp only [BZ,cls,X,Y,F,G,H,I,x,oK (n:=8) (by decide),pX (n:=8) (by decide),b_shl8 s,seval];refine cu (set1_ok S.ok (k.b.gr a) x (k.lt _) s (a.load K) L) ?_;rintro v Z ⟨z,rfl,R3⟩;have vv:leaves W Z bp=true:=ss (z.get bp (Xc V a.n) l);simp only [BZ,cls,ab,seval];exact⟨(a.fr (M:=(· =bb))).trans z (fun c u=>.inl u),R3⟩
 have S:=Si w;have zb:=m.b.lt w;refine aa (n:=14) (rs:=[.tmp 8]) rfl Tryz.e39 rfl rfl rfl (lbt rfl) ?_;simp only [BZ,seval];refine ac (bK (by exact qU)) S ?_;clear S;intro h p S A;simp only [BZ,seval];have k7:=S.fr.n;refine step_ret (J S.gr (S.ld m0 rfl) (by omega)) ?_;rintro v h ⟨f,rfl,R⟩;simp only [BZ,ab,seval];have C:Mo (· =bb) h0 h:=(S.gr.fr (M:=(· =bb))).trans f (fun c u=>.inl u);refine⟨C,C.has (o:=.row _ 1) m.r l,R,fun j=>?_⟩;unfold cJ
 split
 . exact setB_lt (m.lt _) s
 . exact m.lt _
end
theorem kJ:(zO (n+1)).filter f=(zO n).filter f++if f n=true then [n]else []:=by
 rw [List.range_succ,List.filter_append];congr 1;by_cases h:f n=true
 . simp [h]
 . simp [h]
theorem uQ(h:f i=true): ∀n,i<n->((zO n).filter f)[((zO i).filter f).length]? =some i:=by
 intro n
 induction n with
 |zero=>intro a;omega| succ n b=>
   intro a;rw [kJ];by_cases c:i<n
   . have:=b c;rw [Xr (List.getElem?_eq_some_iff.1 this).1];exact this
   . have:i=n:=(by omega);subst this;rw [Xu (Xt _),if_pos h];simp
theorem sK:((zO n).filter f).length<=n:=by have:=List.length_filter_le f (zO n);rwa [List.length_range]at this
theorem EO(q:OZ h0){v:Value}{a b:Int}(c:aD h0 1 (encI .i64) v [a,b]):aT zM 285 [.func (.func 215) #[] #[],v] h0 (.int .i64 (wy (wy (wy a)+wy b))):=by
 have S:=Si q;have k:=tK a;have x:=tK b;have y:=tK (wy a);have r:aq .i64 1=1:=rfl;have s:aq .i64 2=2:=rfl;have t:aq .i64 (wy a)=wy a:=by rw [wrap64]<;>omega
 have u:wy (wy a)=wy a:=wy_id k.1 k.2;have w:aq .i64 (wy a+wy b)=wy a+wy b:=by rw [wrap64]<;>omega
 refine aa (n:=22) (rs:=[.tmp 4]) rfl Tryz.e285 rfl rfl rfl (lbt rfl) ?_;simp only [BZ,Int.cast_ofNat_Int,c.lenq,seval];rw [cq];obtain⟨l,m,d,e⟩:=c.ix (kd:=.i64) (cB .i64) (i:=0) (by simp);replace d:py (some 1) v (.int .i64 0)=some (.pointer (some ⟨l,m,none⟩)):=d;replace e:h0.load l m 1=some [.int .i64 a]:=e;simp only [BZ,d,e,seval];refine ag (mX S.ok) ?_;intro h g;replace S:=S.call g;clear g;simp only [BZ,t,Int.zero_add,seval];refine ag (mX S.ok) ?_;intro h g;replace S:=S.call g;clear g;simp only [BZ,r,u,Int.zero_add,seval];rw [cq];obtain⟨o,p,f,j⟩:=(c.gr S.gr).ix (kd:=.i64) (cB .i64) (i:=1) (by simp);replace f:py (some 1) v (.int .i64 1)=some (.pointer (some ⟨o,p,none⟩)):=f;replace j:h.load o p 1=some [.int .i64 b]:=j;simp only [BZ,f,j,seval];refine ag (mX S.ok) ?_;intro h g;replace S:=S.call g;clear g;simp only [BZ,w,seval];refine ag (mX S.ok) ?_;intro h g;replace S:=S.call g;clear g;simp only [BZ,s,seval];rw [cq];simp only [BZ,ab,seval];exact S.gr
theorem add_ok(e:OZ h0){a b:Int}:aT zM 280 [.int .i64 a,.int .i64 b] h0 (.int .i64 (wy (wy (wy a)+wy b))):=by have S:=Si e;refine aa (n:=9) (rs:=[.tmp 4]) rfl Tryz.e280 rfl rfl rfl (lbt rfl) ?_;simp only [BZ,seval];refine ac (cd (by exact Tryz.t23.1) (by exact Tryz.e2E) (by decide) (by rfl)) S ?_;clear S;intro h c S d;simp only [LC,bJ,bZ,ae,XV,XC,XX,XY,seval]at S;simp only [BZ,seval];refine ag (EO S.ok (a:=a) (b:=b) (.inr ⟨c,0,none,2,rfl,Xt _,S.lds (b:=c) (o:=0) (n:=2*1) m0 (lbt rfl)⟩)) ?_;intro h g;replace S:=S.call g;clear g;simp only [BZ,ab,seval];exact S.gr
structure ia(h:Hp)(nb:Nat)(p:Value)(N:Nat)(m:List Int)(c:Nat->Nat):Prop where
 at0:j8 h nb p m
 len:m.length=N
 val: ∀v,v<N->m.getD v 0=(c v:Int)
theorem ia.gr{h h':Hp}{a N:Nat}{p:Value}{m:List Int}{c:Nat->Nat}(x:ia h a p N m c)(g:Gr h h'):ia h' a p N m c:=⟨x.at0.gr g,x.len,x.val⟩
theorem ia.keep{h h':Hp}{a N:Nat}{p:Value}{m:List Int}{c:Nat->Nat}(d:OZ h)(x:ia h a p N m c)(g:fV h h'):ia h' a p N m c:=by obtain⟨b,v,rfl,r,s,e,f⟩:=x.at0;exact⟨⟨b,v,rfl,g.row d r,s.keep d g,e,f⟩,x.len,x.val⟩
theorem uD(e:OZ h0){f:Nat}(x:ia h0 f p N m c)(g:v<N):aT zM 57 [p,.int .i64 (v:Nat)] h0 (.int .i64 (c v:Nat)):=by
 have S:=Si e;obtain⟨b,t,rfl,r,s,_,_⟩:=x.at0;have h:=r.load1 (o:=0) rfl;have u:=x.len;have j: ¬(v:Int)<0:=by omega
 have k: ¬(m.length:Int)<=(v:Int):=by omega
 obtain⟨d,o,l,a⟩:=s.ix (kd:=.i64) (cB .i64) (i:=v) (by omega);have q:m[v]'(by omega)=(c v:Int):=by rw [<-x.val v g,Xa,Xb (by omega)];rfl
 rw [q]at a;replace a:h0.load d o 1=some [.int .i64 (c v:Nat)]:=a;refine aa (n:=27) (rs:=[.tmp 4]) rfl Tryz.e57 rfl rfl rfl (lbt rfl) ?_;simp only [BZ,ab,j,h,s.lenq,k,l,a,seval];exact S.gr
theorem inside_ok(y:OZ h0){z B l N:Nat}(g:Good γ)(C:aQ h0 z (ptrTo l) γ)(x:ia h0 B p γ.nodes m c)(j:a<γ.arcs.length):
 aT zM 184 [ptrTo l,p,.int .i64 (k:Nat),.int .i64 (a:Nat)] h0 (.bool (decide (c (γ.arcs.getD a default).s=k/\c (γ.arcs.getD a default).t=k))):=by
 have S:=Si y;have I:Fl p:=by obtain⟨b,_,rfl,_⟩:=x.at0;exact bF
 have q:γ.arcs[a]=γ.arcs.getD a default:=by simp [Xa,j]
 have D:γ.arcs.getD a default∈γ.arcs:=by rw [<-q];exact Xe j
 obtain⟨r,s,_⟩:=g.arcs _ D;refine aa (n:=34) (rs:=[.tmp 8]) rfl Tryz.e184 rfl rfl rfl (lbt rfl) ?_;simp only [BZ,seval];refine step_ret (jB S.ok C j) ?_;rintro J h ⟨E,rfl⟩;replace S:=S.call E;rw [q];generalize γ.arcs.getD a default=A at r s;simp only [BZ,cI,seval];refine ac aB S ?_;clear S;intro h t S u;simp only [BZ,seval];refine aC (S.store (i:=0) rfl ?_ ?_ rfl rfl ?_ ono) ?_
 . exact(by exact Tryz.t135.2.1)
 . exact(by intro x e;cases e)
 . exact lbt rfl
 clear S;rintro h ⟨S,F⟩;clear F;simp only [LC,ae,lay,Xm,Xn,seval]at S;simp only [BZ,S.ld (b:=t) (o:=0) m0 rfl,seval];refine ag (uD S.ok (x.gr S.gr) r) ?_;intro K G;replace S:=S.call G;by_cases v:c A.s=k
 . have d:(c A.s:Int)=(k:Int):=(by omega);simp only [BZ,d,S.ld (b:=t) (o:=1) m0 rfl,seval];refine ag (uD S.ok (x.gr S.gr) s) ?_;intro L H;replace S:=S.call H;by_cases w:c A.t=k
   . have f:(c A.t:Int)=(k:Int):=(by omega);simp only [BZ,ab,f,seval];exact⟨by rw [decide_eq_true ⟨v,w⟩],S.gr⟩
   . have f: ¬(c A.t:Int)=(k:Int):=(by omega);simp only [BZ,ab,f,seval];exact⟨by rw [decide_eq_false (fun h=>w h.2)],S.gr⟩
 . have d: ¬(c A.s:Int)=(k:Int):=(by omega);simp only [BZ,ab,d,seval];exact⟨by rw [decide_eq_false (fun h=>v h.1)],S.gr⟩
theorem pairN{x:Option Tch}:jx none x=true:=by cases x<;>rfl
theorem fV.grk(k:fV hq h0)(n:hq.n<=h0.n)(g:Gr h0 h):fV hq h:=fun b a=>(g.get b (Xc a n)).trans (k b a)
def HoldP(E:Env)(hq:Hp)(g:FuncId)(post:List Value)(N:Nat)(f:Nat->Bool):Prop:= ∀h,OZ h->fV hq h->hq.n<=h.n-> ∀v,v<N->aT E g ([.int .i64 (v:Nat)]++post) h (.bool (f v))
theorem indexI_ok(a:OZ h0)(s:fV hq h0)(p:hq.n<=h0.n){v:Value}{post:Array Value}(l:aD h0 1 bO v xs)(C:xs.length<=1000)(t: ∀x∈xs,x<N)(hf:HoldP zM hq g post.toList N f):
 Ret zM 234 [v,.func (.func g) #[] post] h0 fun r h'=>Gr h0 h'/\ ∃z:Int,r=.int .i64 z/\(0<=z↔xs.any f=true):=by
 have S:=Si a;have D:=l.fl;refine aa (n:=19) (rs:=[.tmp 4]) rfl Tryz.e234 rfl rfl rfl (lbt rfl) ?_;simp only [BZ,l.lenq,seval];refine bA (fun(i:Nat) b h=>i<=xs.length/\Gr h0 h/\(∀j,(k:j<xs.length)->j<i->f xs[j]=false)/\b 0=v/\b 1=.func (.func g) #[] post/\b 7=.int .i64 (xs.length:Nat)/\b 8=.int .i64 i) (fun i=>xs.length-i) ?_ 0 _ _ ?_
 . clear S;intro i u b h ⟨hi,g1,hno,r0,r1,r7,r8⟩;have w:aq .i64 ((i:Int)+1)=((i+1:Nat):Int):=(by rw [wrap64]<;>omega);by_cases hlt:i<xs.length
   . obtain⟨c,o,y,m⟩:=(l.gr g1).ix (kd:=.i64) dw hlt;replace m:h.load c o 1=some [.int .i64 (xs[i]:Nat)]:=m;simp only [BZ,r0,r1,r7,r8,aI,hlt,y,m,seval];refine ag (hf _ g1.ok (s.grk p g1) (Xo p g1.n) xs[i] (t _ (Xe hlt))) ?_;intro E q;cases d:f xs[i]with
     | true=>
       simp only [BZ,ab,seval];refine⟨g1.trans q,_,rfl,⟨fun _=>List.any_eq_true.2 ⟨_,Xe hlt,d⟩,fun _=>by omega⟩⟩
     | false=>
       simp only [BZ,r8,w,seval];refine u (i+1) _ _ (by omega) ⟨by omega,g1.trans q,fun j k A=>?_,by simp [aG,r0,r1,r7]⟩;by_cases e:j=i
       . subst e;exact d
       . exact hno j k (by omega)
   . simp only [BZ,ab,r7,r8,aI,hlt,seval];refine⟨g1,_,rfl,⟨fun h=>by omega,fun h=>?_⟩⟩;obtain⟨x,B,d⟩:=List.any_eq_true.1 h;obtain⟨j,k,e⟩:=XE B;rw [<-e,hno j k (by omega)]at d;cases d
 . exact⟨Xh _,Gr.refl a,fun j _ h=>by omega,by simp [aG,cZ]⟩
theorem BR(a:OZ h0)(j:fV hq h0)(k:hq.n<=h0.n){v:Value}{post:Array Value}(d:aD h0 1 bO v xs)(l:xs.length<=1000)(m: ∀x∈xs,x<N)(hf:HoldP zM hq g post.toList N f):
 aT zM 170 [v,.func (.func g) #[] post] h0 (.bool (xs.any f)):=by
 have S:=Si a;have o:=d.fl;refine aa (n:=9) (rs:=[.tmp 4]) rfl Tryz.e170 rfl rfl rfl (lbt rfl) ?_;simp only [BZ,seval];refine step_ret (indexI_ok a j k d l m hf) ?_;rintro r h ⟨e,z,rfl,i⟩;cases b:xs.any f with
 | true=>have c:=i.2 b;simp only [BZ,ab,c,seval];exact e| false=>
   have c: ¬0<=z:=fun h=>(by rw [i.1 h]at b;cases b);simp only [BZ,ab,c,seval];exact e
section
variable{hq:Hp}{γ:Gra}{nb mb bp k:Nat}{p:Value}{m:List Int}{c:Nat->Nat}
def beyB(γ:Gra)(c:Nat->Nat)(k a:Nat):Bool:=!decide (c (γ.arcs.getD a default).s=k)
theorem beyond_ok(f:OZ hq)(u:Good γ)(I:aQ hq nb (ptrTo bp) γ)(x:ia hq mb p γ.nodes m c)(J:hq.load b1 0 1=some [ptrTo bp])(y:hq.load b2 0 1=some [p])(z:hq.load w 0 1=some [.int .i64 (k:Nat)]):
 HoldP zM hq 239 [ptrTo b1,ptrTo b2,ptrTo w] γ.arcs.length (beyB γ c k):=by
 intro h K g L a v;have S:=Si K;have B:γ.arcs[a]=γ.arcs.getD a default:=by simp [Xa,v]
 have M:γ.arcs.getD a default∈γ.arcs:=by rw [<-B];exact Xe v
 obtain⟨C,N,_⟩:=u.arcs _ M;refine aa (n:=24) (rs:=[.tmp 5]) rfl Tryz.e239 rfl rfl rfl (lbt rfl) ?_;simp only [BZ,g.load f J,seval];refine step_ret (jB S.ok (I.keep f g) v) ?_;rintro R T ⟨O,rfl⟩;replace S:=S.call O;unfold beyB;rw [B];generalize γ.arcs.getD a default=A at C N;simp only [BZ,cI,seval];refine ac aB S ?_;clear S;intro h D S E;simp only [BZ,seval];refine aC (S.store (i:=0) rfl ?_ ?_ rfl rfl ?_ ono) ?_
 . exact(by exact Tryz.t135.2.1)
 . exact(by intro x e;cases e)
 . exact lbt rfl
 clear S;rintro h ⟨S,P⟩;clear P;simp only [LC,ae,lay,Xm,Xn,seval]at S;have l:=g.grk L S.gr;obtain⟨b,U,rfl,r,s,_,_⟩:=(x.keep f l).at0;have F:=r.load1 (o:=0) rfl;have V:=x.len;obtain⟨d,o,G,t⟩:=s.ix (kd:=.i64) (cB .i64) (i:=A.s) (by omega);have Q:m[A.s]'(by omega)=(c A.s:Int):=by rw [<-x.val A.s C,Xa,Xb (by omega)];rfl
 rw [Q]at t;simp only [encI]at t;simp only [BZ,seval];refine ar (aA rfl) (q:=0) (ps:=[]) (by kernel_rfl) ?_;by_cases H:c A.s=k
 . have j:(c A.s:Int)=(k:Int):=(by omega);simp only [BZ,cls,ab,l.load f y,l.load f z,F,G,t,j,S.ld (b:=D) (o:=0) m0 rfl,seval];exact⟨by rw [decide_eq_true H];rfl,S.gr⟩
 . have j: ¬(c A.s:Int)=(k:Int):=(by omega);simp only [BZ,cls,ab,l.load f y,l.load f z,F,G,t,j,S.ld (b:=D) (o:=0) m0 rfl,seval];exact⟨by rw [decide_eq_false H];rfl,S.gr⟩
def borB(γ:Gra)(c:Nat->Nat)(k v:Nat):Bool:=decide (c v=k)&&(outs γ.arcs Arc.t γ.arcs.length v).any (beyB γ c k)
theorem Bg:borB γ c k v=true↔c v=k/\ ∃e∈γ.arcs,e.t=v/\c e.s≠k:=by
 unfold borB;rw [Bool.and_eq_true,decide_eq_true_eq,List.any_eq_true];refine and_congr_right fun _=>?_;constructor
 . rintro⟨a,j,d⟩;obtain⟨b,f⟩:=iP.1 j;have l:γ.arcs.getD a default∈γ.arcs:=(by rw [Xa,Xb b];exact Xe b);refine⟨_,l,f,fun e=>?_⟩;unfold beyB at d;rw [decide_eq_true e]at d;cases d
 . rintro⟨e,n,b,f⟩;obtain⟨i,g,o⟩:=XE n;have h:γ.arcs.getD i default=e:=(by rw [Xa,Xb g,o];rfl);refine⟨i,iP.2 ⟨g,by rw [h];exact b⟩,?_⟩;unfold beyB;rw [h,decide_eq_false f];rfl
theorem DS(f:OZ hq)(j:Good γ)(B:aQ hq nb (ptrTo bp) γ)(x:ia hq mb p γ.nodes m c)(C:hq.load b1 0 1=some [p])(D:hq.load b2 0 1=some [.int .i64 (k:Nat)])(E:hq.load y 0 1=some [ptrTo bp])(l4:hq.load b4 0 1=some [.func (.func 239) #[] #[ptrTo y,ptrTo b1,ptrTo b2]]):
 HoldP zM hq 241 [ptrTo b1,ptrTo b2,ptrTo y,ptrTo b4] γ.nodes (borB γ c k):=by
 intro h l g F v G;have S:=Si l;obtain⟨b,vm,rfl,r,s,_,_⟩:=(x.keep f g).at0;have H:=r.load1 (o:=0) rfl;have hl:=x.len;obtain⟨d,o,I,w⟩:=s.ix (kd:=.i64) (cB .i64) (i:=v) (by omega);have ev:m[v]'(by omega)=(c v:Int):=by rw [<-x.val v G,Xa,Xb (by omega)];rfl
 rw [ev]at w;replace w:h.load d o 1=some [.int .i64 (c v:Nat)]:=w;have z:=g.load f C;have A:=g.load f D;have J:=g.load f E;have K:=g.load f l4;have L:=bD l z;have M:=bD l A;have N:=bD l J;have O:=bD l K;have P:=r.lt l;have Q:=bD l w;unfold borB;by_cases R:c v=k
 . have t:(c v:Int)=(k:Int):=(by omega);refine aa (n:=23) (rs:=[.tmp 6]) rfl Tryz.e241 rfl rfl rfl (lbt rfl) ?_;simp only [BZ];refine ar (aA rfl) (q:=0) (ps:=[(12,13)]) (by kernel_rfl) ?_;simp only [BZ,cls,z,A,J,H,I,w,t,seval];refine cu (xm S.ok (B.keep f g) (by have:=j.many;omega) G) ?_;rintro vl h2 ⟨e,sl,_⟩;have T:=ao e L;have U:=ao e M;have V:=ao e N;have W:=ao e O;have X:=ao e P;have Y:=ao e Q;replace S:=S.call e;simp only [BZ,cls,e.load K,seval];refine bC (BR S.ok (g.grk F e) (Xo F e.n) sl (by have:=j.many;have:=kX γ.arcs Arc.t γ.arcs.length v;omega) (fun a ha=>(iP.1 ha).1) (post:=#[ptrTo y,ptrTo b1,ptrTo b2]) (beyond_ok f j B x E C D)) ?_;intro h3 u;have Z:=ao u (Xc L e.n);have w2:=ao u (Xc M e.n);have w3:=ao u (Xc N e.n);have w4:=ao u (Xc O e.n);have wb:=ao u (Xc P e.n);have wd:=ao u (Xc Q e.n);replace S:=S.call u;simp only [BZ,cls,ab,seval];refine⟨by simp only [aO,aU,aK,aX,aN,ne_eq,not_false_eq_true,bj,bG,aW,aS,bI,ce,aF,Xi,ah,cK,dD,aw T,aw U,aw V,aw W,aw X,aw Y,av T,av U,av V,av W,av X,av Y,aw Z,aw w2,aw w3,aw w4,aw wb,aw wd,av Z,av w2,av w3,av w4,av wb,av wd,seval],?_⟩;exact⟨by rw [decide_eq_true R,Bool.true_and],S.gr⟩
 . have t: ¬(c v:Int)=(k:Int):=(by omega);refine aa (n:=23) (rs:=[.tmp 6]) rfl Tryz.e241 rfl rfl rfl (lbt rfl) ?_;simp only [BZ];refine ar (aA rfl) (q:=0) (ps:=[(12,13)]) (by kernel_rfl) ?_;simp only [BZ,cls,ab,z,A,H,I,w,t,seval];refine⟨by simp only [aO,aU,aK,aX,aN,ne_eq,not_false_eq_true,bj,bG,aW,aS,bI,ce,aF,Xi,ah,cK,dD,kD,pairN,seval],?_⟩;exact⟨by rw [decide_eq_false R,Bool.false_and],S.gr⟩
end
theorem cnodes_ok(d:OZ h0){c:Value}(e:Fl p)(f:Fl c):Ret zM 240 [p,c] h0 fun v h'=>Gr h0 h'/\ ∃b1 b2,v=.func (.func 264) #[] #[ptrTo b1,ptrTo b2]/\h0.n<=b1/\h0.n<=b2/\h'.load b1 0 1=some [p]/\h'.load b2 0 1=some [c]:=by have S:=Si d;refine aa (n:=6) (rs:=[.tmp 4]) rfl Tryz.e240 rfl rfl rfl (lbt rfl) ?_;simp only [BZ,seval];refine ac (bK (by assumption)) S ?_;clear S;intro h b1 S a;simp only [BZ,if_false,seval];refine ac (bK (by assumption)) S ?_;clear S;intro h b2 S b;simp only [BZ,ab,seval];exact⟨S.gr,b1,b2,rfl,a,b,S.ld m1 rfl,S.ld m0 rfl⟩
theorem cnodes_it  (l:OZ hq) (j:OZ h0) (B:fV hq h0) (q:hq.n<=h0.n) {H:Nat}    (x:ia hq H p N m c) (S:N<=1000)   {post:Array Value}  (hf:HoldP zM hq g post.toList N f)
 (I:h0.load b1 0 1=some [p]) (K:h0.load b2 0 1=some [.func (.func g) #[] post]):
 m9 zM 264 [] [ptrTo b1,ptrTo b2] h0 (fun c=>c=b1\/c=b2\/c<hq.n) (((zO N).filter f).map fun(v:Nat)=>[.int .i64 (v:Nat)]):=by
 intro L J Z M Y h F s d;have C:=s.load j I (.inl rfl);obtain⟨b,T,rfl,r,D,_,_⟩:=(x.keep l (s.keep B q (fun c t=>.inr (.inr t)))).at0;have E:=r.load1 (o:=0) rfl;have U:=x.len;have u:(m.length:Int)=(N:Int):=by omega
 refine enter (n:=25) (rs:=[]) rfl Tryz.e264 rfl rfl rfl (lbt rfl) ?_;simp only [BZ,C,E,D.lenq,u,seval];refine bA (fun(i:Nat) e h=>i<=N/\ ∃F,ItS h0 (fun c=>c=b1\/c=b2\/c<hq.n) h F/\J ((zO i).filter f).length h F/\e 0=.func (.yield L) #[] #[]/\e 1=ptrTo b1/\e 2=ptrTo b2/\e 11=.int .i64 (N:Nat)/\e 12=.int .i64 i) (fun i=>N-i) ?_ 0 _ _ ?_
 . clear C s d F r D E h;intro i G e h ⟨hi,F,s,d,r0,r1,r2,r11,r12⟩;have w:aq .i64 ((i:Int)+1)=((i+1:Nat):Int):=(by rw [wrap64]<;>omega);by_cases hlt:i<N
   . have O:=s.load j K (.inr (.inl rfl));simp only [BZ,r2,r11,r12,aI,hlt,O,seval];refine ag (hf _ s.ok (s.keep B q (fun c t=>.inr (.inr t))) (Xo q s.n) i hlt) ?_;intro V k;cases y:f i with
     | true=>
       have P:(((zO N).filter f).map fun(v:Nat)=>[Value.int .i64 (v:Nat)])[((zO i).filter f).length]? =some [.int .i64 (i:Nat)]:=(by rw [Xj,uQ y _ hlt];rfl);have z:((zO (i+1)).filter f).length=((zO i).filter f).length+1:=(by rw [kJ,if_pos y];simp);simp only [BZ,r0,seval];refine c7 Y (s.gr k) (Y.gr _ _ _ _ d k) (i:=((zO i).filter f).length) P ?_ ?_ ?_
       . intro A Q a R _ _;simp only [BZ,r12,w,seval];exact G (i+1) _ _ (by omega) ⟨by omega,Q,R,by rw [z];exact a,by simp [aG,r0,r1,ah,r2,r11]⟩
       . intro A a _;simp only [BZ,seval];exact iA rfl ⟨rfl,.inr (.inl ⟨_,rfl,a⟩)⟩
       . intro v A a;exact absurd a (M v A)
     | false=>have z:(zO (i+1)).filter f=(zO i).filter f:=(by rw [kJ,if_neg (by rw [y];decide)];simp);simp only [BZ,r12,w,seval];exact G (i+1) _ _ (by omega) ⟨by omega,F,s.gr k,by rw [z];exact Y.gr _ _ _ _ d k,by simp [aG,r0,r1,ah,r2,r11]⟩
   . simp only [BZ,r11,r12,aI,hlt,seval];have:i=N:=(by omega);subst this;exact cg (bV ⟨rfl,_,rfl,rfl,.inl ⟨_,F,rfl,by simpa using d⟩⟩)
 . exact⟨Xh _,F,s,d,by simp [aG,cZ,ah]⟩
theorem border_ok(y:OZ h0){Q R D:Nat}(a:Good γ)(E:aQ h0 Q (ptrTo D) γ)(x:ia h0 R p γ.nodes m c):
 Ret zM 185 [p,ptrTo D,.int .i64 (k:Nat)] h0 fun r h'=>Gr h0 h'/\aD h' 1 bO r ((zO γ.nodes).filter (borB γ c k))/\ ∀c,au r c->h0.n<=c:=by
 have S:=Si y;have fp:Fl p:=by obtain⟨b,_,rfl,_⟩:=x.at0;exact bF
 obtain⟨bc,T,rfl,r,s,_,_⟩:=x.at0;have U:=r.load1 (o:=0) rfl;have V:=x.len;have W:=a.n1;have n2:=a.n2;have z:(m.length:Int)=(γ.nodes:Int):=by omega
 obtain⟨F,ov,sv,cv,X⟩: ∃d o s c,T=.slice (some ⟨d,o,s⟩) m.length c:=by
  rcases s with⟨_,e⟩|⟨d,o,s,c,e,_⟩
  . subst e;simp at V;omega
  . exact⟨d,o,s,c,e⟩
 subst X;have A:F<h0.n:=s.lt y (b:=F) rfl;refine aa (n:=29) (rs:=[.tmp 6]) rfl Tryz.e185 rfl rfl rfl (lbt rfl) ?_;simp only [BZ,seval];refine ac (bK (by exact bF)) S ?_;clear S;intro h j S G;simp only [BZ,if_false,seval];refine ac (bK (by exact bF)) S ?_;clear S;intro h t S H;simp only [BZ,if_false,seval];refine ac (bK (by exact aJ)) S ?_;clear S;intro h I S J;have Y:=(S.row (b:=j) m2).lt S.ok;have Z:=(S.row (b:=t) m1).lt S.ok;have zc:=Xc (r.lt y) S.gr.n;have zd:=Xc A S.gr.n;have B:=S.gr.load U;have s':=s.gr S.gr;simp only [BZ];refine ar (aA rfl) (q:=0) (ps:=[(8,13),(8,12),(8,9)]) (by kernel_rfl) ?_;simp only [BZ,cls,S.ld (b:=j) (o:=0) m2 rfl,S.ld (b:=t) (o:=0) m1 rfl,seval];refine bC (bM S.ok (E.gr S.gr)) ?_;intro h1 l;have K:=ao l Y;have L:=ao l Z;have M:=ao l zc;have N:=ao l zd;have u:=l.load B;replace S:=S.call l;simp only [BZ,cls,u,s'.lenq,z,S.ld (b:=j) (o:=0) m2 rfl,S.ld (b:=t) (o:=0) m1 rfl,seval];refine⟨by simp only [aO,aU,aK,aX,aN,ne_eq,not_false_eq_true,bj,bG,aW,aS,bI,ce,aF,Xi,ah,tN,aw K,aw L,aw M,av K,av L,av M,aw N,av N,seval],?_⟩;refine ac aB S ?_;clear S;intro h O S P;simp only [BZ,seval];refine aC (aE S (i:=0) rfl Tryz.t124.2.1 fD (Xd (lbt rfl)) ono) ?_;clear S;rintro h2 ⟨S,_⟩;simp only [LC]at S;simp only [BZ,S.ld (b:=j) (o:=0) m3 rfl,seval];have C:=S.gr;have w:=S.ok;have l3:=S.ld (b:=j) (o:=0) m3 rfl;have l4:=S.ld (b:=t) (o:=0) m2 rfl;have l5:=S.ld (b:=I) (o:=0) m1 rfl;have l7:=S.ld (b:=O) (o:=0) m0 rfl;have hf:=DS w a (E.gr C) (x.gr C) l3 l5 l4 l7;refine step_ret (cnodes_ok S.ok bF fD) ?_;rintro v h4 ⟨g,b1,b2,rfl,W,ad,y1,y2⟩;have it:=cnodes_it w g.ok g.keep g.n (x.gr C) (by omega) (g:=241) (post:=#[ptrTo j,ptrTo I,ptrTo t,ptrTo O]) hf y1 y2;replace S:=S.call g;simp only [BZ,seval];refine step_ret (wL S.ok (g:=264) (post:=#[ptrTo b1,ptrTo b2]) (iter_w it) (fun _ h=>h.elim) (by have:=sK (n:=γ.nodes) (f:=borB γ c k);omega)) ?_;rintro r h5 ⟨f5,G5,d5⟩;have g5:=f5.gr;have k5:=S.fr.n;replace S:=S.call g5;simp only [BZ,ab,seval];exact⟨S.gr,G5.sl rfl dw (by decide),fun c hc=>by have:=d5 c hc;omega⟩
theorem Dx(c:OZ h0)(e:aQ h0 d (ptrTo a) γ)(i:b<γ.nodes):aT zM 265 [ptrTo a,.int .i64 (b:Nat)] h0 (.bool true):=by
 have S:=Si c;have f:(0:Int)<=(b:Int):=by omega
 have g:(b:Int)<(γ.nodes:Int):=by omega
 refine aa (n:=17) (rs:=[.tmp 4]) rfl Tryz.e265 rfl rfl rfl (lbt rfl) ?_;simp only [BZ,f,seval];refine ag (bM S.ok e) ?_;intro j h;simp only [BZ,ab,g,seval];exact h
noncomputable def j9(γ:Gra)(b a:Nat):Bool:=decide (dOf (seen γ.arcs Arc.t Arc.s) b (γ.arcs.getD a default).s<FAR/\dOf (seen γ.arcs Arc.t Arc.s) b (γ.arcs.getD a default).t<FAR/\dOf (seen γ.arcs Arc.t Arc.s) b (γ.arcs.getD a default).s=(γ.arcs.getD a default).w+dOf (seen γ.arcs Arc.t Arc.s) b (γ.arcs.getD a default).t)
def HoldA(E:Env)(hq:Hp)(x:Nat)(g:FuncId)(post:List Value)(N:Nat)(f:Nat->Bool):Prop:= ∀h,OZ h->(∀b,b<hq.n->b≠x->h.get b=hq.get b)->hq.n<=h.n-> ∀v,v<N->aT E g ([.int .i64 (v:Nat)]++post) h (.bool (f v))
theorem nI{o:Nat}{l:List Value}(e:h.load b o n=some l)(g:h'.get b=h.get b):h'.load b o n=some l:=by unfold Hp.load at e⊢;rw [g];exact e
theorem sl_get{a:Type}{enc:a->List Value}{v:Value}{xs:List a}(s:aD h k enc v xs)(g: ∀c,au v c->h'.get c=h.get c):aD h' k enc v xs:=by
 rcases s with s|⟨b,o,s,c,d,e,f⟩
 . exact .inl s
 . exact .inr ⟨b,o,s,c,d,e,nI f (g b (by rw [d];rfl))⟩
theorem tells1_ok{f:Hp}(z:OZ f)(g:OZ hq)(U:fV f hq)(J:f.n<=hq.n)(hx:f.n<=x)(B:Good γ){V K:Nat}(W:aQ f V (ptrTo K) γ)(x2:b2≠x)(X:b5≠x)(L: ∀v,IsD (seen γ.arcs Arc.t Arc.s) b v (dOf (seen γ.arcs Arc.t Arc.s) b v)){y vA vO:Value}(M:hq.load b2 0 1=some [ptrTo K])(N:hq.load b5 0 1=some [y])(O:aD hq 1 bO y ((zO γ.nodes).map (dOf (seen γ.arcs Arc.t Arc.s) b)))(Y: ∀c,au y c->c≠x):
 HoldA zM hq x 279 [ptrTo b2,ptrTo b5] γ.arcs.length (j9 γ b):=by
 intro h Z k nq a C;have kN:fV f h:=fun c p=>(k c (Xc p J) (by omega)).trans (U c p);have nN:f.n<=h.n:=Xo J nq;have e2:=nI M (k b2 (bD g M) x2);have e5:=nI N (k b5 (bD g N) X);have r:aD h 1 bO y _:=sl_get O (fun c p=>k c (O.lt g p) (Y c p));have S:=Si Z;have P:γ.arcs[a]=γ.arcs.getD a default:=by simp [Xa,C]
 have hm:γ.arcs.getD a default∈γ.arcs:=by rw [<-P];exact Xe C
 obtain⟨hs,ht,hw⟩:=B.arcs _ hm;unfold j9;have D:=L (γ.arcs.getD a default).s;have E:=L (γ.arcs.getD a default).t;generalize hd:dOf (seen γ.arcs Arc.t Arc.s) b=d at D E r;refine aa (n:=35) (rs:=[.tmp 4]) rfl Tryz.e279 rfl rfl rfl (lbt rfl) ?_;simp only [BZ,e2,seval];refine step_ret (jB S.ok (W.keep z kN) C) ?_;rintro rv h4 ⟨g4,rfl⟩;replace S:=S.call g4;rw [P];generalize γ.arcs.getD a default=A at hs ht hw D E;simp only [BZ,cI,seval];refine ac aB S ?_;clear S;intro h s S Q;simp only [BZ,seval];refine aC (S.store (i:=0) rfl ?_ ?_ rfl rfl ?_ ono) ?_
 . exact(by exact Tryz.t135.2.1)
 . exact(by intro x e;cases e)
 . exact lbt rfl
 clear S;rintro h ⟨S,mo⟩;clear mo;simp only [LC,ae,lay,Xm,Xn,seval]at S;have t:=r.gr S.gr;have lD:((zO γ.nodes).map d).length=γ.nodes:=by simp
 obtain⟨c1,o1,x1,F⟩:=t.ix (kd:=.i64) dw (i:=A.t) (by omega);obtain⟨c2,o2,x2,R⟩:=t.ix (kd:=.i64) dw (i:=A.s) (by omega);simp only [List.getElem_map,List.getElem_range,bO]at F R;have G:=S.gr.load e5;have z6:=(S.row (b:=s) m0).lt S.ok;have z5:=bD S.ok G;have zc:=bD S.ok F;simp only [BZ,seval];refine ar (aA rfl) (q:=0) (ps:=[]) (by kernel_rfl) ?_;simp only [BZ,cls,G,x1,F,S.ld (b:=s) (o:=1) m0 rfl,S.ld (b:=s) (o:=2) m0 rfl,seval];refine bC (add_ok S.ok) ?_;intro h7 m;have v6:=ao m z6;have v5:=ao m z5;have vc:=ao m zc;replace S:=S.call m;simp only [BZ,cls,seval];have ad:=c9;have b1:=D.le;have b2:=E.le;have H:wy (wy (wy (d A.t:Nat))+wy (A.w:Nat))=(if d A.t+A.w<FAR then((d A.t+A.w:Nat):Int)else(FAR:Int)):=by
  unfold wy
  repeat' split
  all_goals omega
 rw [H];have u:=m.load G;have w:=m.load R;by_cases hf:d A.t+A.w<FAR
 . rw [if_pos hf];have w1:wy ((d A.t+A.w:Nat):Int)<72057594037927936:=(by unfold wy;omega);have I:decide (wy ((d A.t+A.w:Nat):Int)<72057594037927936)=true:=decide_eq_true w1;refine ag (og S.ok) ?_;intro h8 j;replace S:=S.call j;rw [I];by_cases T:d A.s=A.w+d A.t
   . have l:((d A.t+A.w:Nat):Int)=(d A.s:Int):=(by omega);simp only [BZ,ab,j.load u,x2,j.load w,l,S.ld (b:=s) (o:=0) m0 rfl,seval];exact⟨by rw [decide_eq_true ⟨by omega,by omega,T⟩],S.gr⟩
   . have l: ¬((d A.t+A.w:Nat):Int)=(d A.s:Int):=(by omega);simp only [BZ,ab,j.load u,x2,j.load w,l,S.ld (b:=s) (o:=0) m0 rfl,seval];exact⟨by rw [decide_eq_false (fun h=>T h.2.2)],S.gr⟩
 . rw [if_neg hf];have I:decide (wy (FAR:Int)<72057594037927936)=false:=decide_eq_false (by unfold wy;omega);refine ag (og S.ok) ?_;intro h8 j;replace S:=S.call j;rw [I];simp only [BZ,ab,seval];exact⟨by rw [decide_eq_false (fun h=>by omega)],S.gr⟩
theorem tells_ok{a:Hp}(j:OZ a)(z:OZ h0)(p:Gr a h0)(A:a.n<=x)(B:x<h0.n)(d:Good γ){C q:Nat}(s:aQ a C (ptrTo q) γ)(E:b<γ.nodes):
 Ret zM 268 [ptrTo q,.int .i64 (b:Nat)] h0 fun r h'=>Gr h0 h'/\ ∃b2 b5,r=.func (.func 279) #[] #[ptrTo b2,ptrTo b5]/\h0.n<=b2/\h0.n<=b5/\HoldA zM h' x 279 [ptrTo b2,ptrTo b5] γ.arcs.length (j9 γ b):=by
 have S:=Si z;refine aa (n:=10) (rs:=[.tmp 4]) rfl Tryz.e268 rfl rfl rfl (lbt rfl) ?_;simp only [BZ,seval];refine ac (aV (by intro x e;cases e)) S ?_;clear S;intro h b2 S f;simp only [ae]at S;simp only [BZ,S.ld (b:=b2) (o:=0) m0 rfl,seval];refine step_ret (tI S.ok d (s.gr (p.trans S.gr)) E) ?_;rintro r P ⟨F,Q,vA,vO,D,R,O,rfl,k,G,H,_,t,I,_⟩;have T:=S.fr.n;replace S:=S.call F;have J:=k.fl;have K:=G.fl;have L:=H.fl;have u:D=dOf (seen γ.arcs Arc.t Arc.s) b:=funext fun v=>((yr (t v)).1).symm;have l: ∀v,IsD (seen γ.arcs Arc.t Arc.s) b v (dOf (seen γ.arcs Arc.t Arc.s) b v):=fun v=>by rw [<-u];exact t v
 rw [u]at k;simp only [BZ];have M:=S.row (b:=b2) m0;have U:=S.fr.n;have g:=S.gr;have m:=S.ok;clear S;have S:=Si m;refine ac aB S ?_;clear S;intro h b5 S w;simp only [BZ,seval];refine aC (S.store (i:=0) rfl Tryz.t245.2.1 (by intro x e;cases e) rfl (by simp only [ae,XQ,XW,J.2.1,K.2.1,L.2.1,Xi]) (lbt rfl) ono) ?_;clear S;rintro V ⟨S,_⟩;simp only [LC,ae,lay,Xm,Xn,seval]at S;simp only [BZ,ab,seval];refine⟨g.trans S.gr,b2,b5,rfl,f,by omega,?_⟩;have y:=p.trans (g.trans S.gr);exact tells1_ok j S.ok y.keep y.n A d s (by omega) (by omega) l (vA:=vA) (vO:=vO) ((M.gr S.gr).load1 (o:=0) rfl) (S.ld (b:=b5) (o:=0) m0 rfl) (k.gr S.gr) (fun c N e=>by have:=I c (.inl N);omega)
theorem marked_ok(d:OZ h0){c:Value}(e:Fl c):Ret zM 267 [.int .i64 (n:Nat),c] h0 fun v h'=>Gr h0 h'/\ ∃b1 b2,v=.func (.func 278) #[] #[ptrTo b1,ptrTo b2]/\h0.n<=b1/\h0.n<=b2/\h'.load b1 0 1=some [.int .i64 (n:Nat)]/\h'.load b2 0 1=some [c]:=by have S:=Si d;refine aa (n:=6) (rs:=[.tmp 4]) rfl Tryz.e267 rfl rfl rfl (lbt rfl) ?_;simp only [BZ,seval];refine ac (bK (by exact aJ)) S ?_;clear S;intro h b1 S a;simp only [BZ,if_false,seval];refine ac (bK (by assumption)) S ?_;clear S;intro h b2 S b;simp only [BZ,ab,seval];exact⟨S.gr,b1,b2,rfl,a,b,S.ld m1 rfl,S.ld m0 rfl⟩
theorem marked_it  (u:OZ hq) (e:OZ h0) (y:fV hq h0) (q:hq.n<=h0.n)   (H:N<=1000)   {post:Array Value}  (hf:HoldA zM hq x g post.toList N f)
 (z:h0.load b1 0 1=some [.int .i64 (N:Nat)]) (A:h0.load b2 0 1=some [.func (.func g) #[] post]):
 m9 zM 278 [] [ptrTo b1,ptrTo b2] h0 (fun c=>c=b1\/c=b2\/(c<hq.n/\c≠x)) (((zO N).filter f).map fun(v:Nat)=>[.int .i64 (v:Nat)]):=by
 intro B J Z C Y h F s b;have r:=s.load e z (.inl rfl);refine enter (n:=19) (rs:=[]) rfl Tryz.e278 rfl rfl rfl (lbt rfl) ?_;simp only [BZ,r,seval];refine bA (fun(i:Nat) d h=>i<=N/\ ∃F,ItS h0 (fun c=>c=b1\/c=b2\/(c<hq.n/\c≠x)) h F/\J ((zO i).filter f).length h F/\d 0=.func (.yield B) #[] #[]/\d 1=ptrTo b1/\d 2=ptrTo b2/\d 5=.int .i64 (N:Nat)/\d 6=.int .i64 i) (fun i=>N-i) ?_ 0 _ _ ?_
 . clear r s b F h;intro i t d h ⟨hi,F,s,b,r0,r1,r2,r5,r6⟩;have w:aq .i64 ((i:Int)+1)=((i+1:Nat):Int):=(by rw [wrap64]<;>omega);by_cases hlt:i<N
   . have D:=s.load e A (.inr (.inl rfl));simp only [BZ,r2,r5,r6,aI,hlt,D,seval];refine ag (hf _ s.ok (fun c k l=>(s.data c (Xc k q) (.inr (.inr ⟨k,l⟩))).trans (y c k)) (Xo q s.n) i hlt) ?_;intro I j;cases m:f i with
     | true=>
       have l:(((zO N).filter f).map fun(v:Nat)=>[Value.int .i64 (v:Nat)])[((zO i).filter f).length]? =some [.int .i64 (i:Nat)]:=(by rw [Xj,uQ m _ hlt];rfl);have o:((zO (i+1)).filter f).length=((zO i).filter f).length+1:=(by rw [kJ,if_pos m];simp);simp only [BZ,r0,seval];refine c7 Y (s.gr j) (Y.gr _ _ _ _ b j) (i:=((zO i).filter f).length) l ?_ ?_ ?_
       . intro p E a G _ _;simp only [BZ,r6,w,seval];exact t (i+1) _ _ (by omega) ⟨by omega,E,G,by rw [o];exact a,by simp [aG,r0,r1,ah,r2,r5]⟩
       . intro p a _;simp only [BZ,seval];exact iA rfl ⟨rfl,.inr (.inl ⟨_,rfl,a⟩)⟩
       . intro v p a;exact absurd a (C v p)
     | false=>have o:(zO (i+1)).filter f=(zO i).filter f:=(by rw [kJ,if_neg (by rw [m];decide)];simp);simp only [BZ,r6,w,seval];exact t (i+1) _ _ (by omega) ⟨by omega,F,s.gr j,by rw [o];exact Y.gr _ _ _ _ b j,by simp [aG,r0,r1,ah,r2,r5]⟩
   . simp only [BZ,r5,r6,aI,hlt,seval];have:i=N:=(by omega);subst this;exact cg (bV ⟨rfl,_,rfl,rfl,.inl ⟨_,F,rfl,by simpa using b⟩⟩)
 . exact⟨Xh _,F,s,b,by simp [aG,cZ,ah]⟩
def eu(n:Nat)(f:Nat->Bool):List Value:=(zO n).map fun j=>.bool (f j)
theorem uc:(eu n f).length=n:=by simp [eu]
theorem bolC_at(h:j<n):(eu n f)[j]? =some (.bool (f j)):=jW (F:=fun j=>Value.bool (f j)) h
theorem BH:(eu n f).set j (.bool true)=eu n (fun u=>decide (u=j)||f u):=by have:=jL (N:=n) (k:=j) (F:=fun j=>Value.bool (f j)) (F':=fun u=>Value.bool (decide (u=j)||f u)) (fun i _ a=>by simp [a]);unfold eu;rw [<-this];simp
theorem mO{g:Nat->Bool}(h: ∀j,j<n->f j=g j):eu n f=eu n g:=by unfold eu;refine XR fun j a=>?_;rw [h j (List.mem_range.1 a)]
theorem putB_ok(C:OZ h0)(R:Row h0 d (eu n f) 1){post:Array Value}(K:m9 zM g [] post.toList h0 D (xs.map fun(v:Nat)=>[.int .i64 (v:Nat)]))(E: ¬D d)(A: ∀x∈xs,x<n)(hl:xs.length<=1000):
 Ret zM 266 [.slice (some ⟨d,0,none⟩) n n,.func (.func g) #[] post,.bool true] h0 fun r h'=>Mo (· =d) h0 h'/\r=.slice (some ⟨d,0,none⟩) n n/\Row h' d (eu n (fun u=>decide (u∈xs)||f u)) 1:=by
 have S:=St.init1 C (o:=.row (eu n f) 1) R;have zl:=R.lt C;refine aa (n:=15) (rs:=[.tmp 6]) rfl Tryz.e266 rfl rfl rfl (lbt rfl) ?_;simp only [BZ,seval];refine ac (bK (by exact bg)) S ?_;clear S;intro h m S G;simp only [BZ,if_false,seval];refine ac (bK (by exact qU)) S ?_;clear S;intro h t S H;simp only [BZ,if_false,seval];have M:eu n f=eu n (fun u=>decide (u∈xs.take 0)||f u):=mO fun j _=>by simp
 refine ie S (g:=g) (a:=#[]) (b:=post) (by simp [bI,aG,ah]) rfl rfl ?_;intro I z w p N O g2;obtain⟨X,J,p⟩: ∃X:fZ,X=_/\St (· =d) h0 I [(w,.loop X),(z,.dfr),(t,.row [.bool true] 1),(m,.row [.slice (some ⟨d,0,none⟩) n n] 1),(d,.row (eu n f) 1)] []:=⟨_,rfl,p⟩;have P:Yld zM w (fun k h' F=>St (· =d) h0 h' [(w,.loop X),(z,.dfr),(t,.row [.bool true] 1),(m,.row [.slice (some ⟨d,0,none⟩) n n] 1),(d,.row (eu n (fun u=>decide (u∈xs.take k)||f u)) 1)] []/\k<=xs.length/\F=[w,z,t,m,d]) (fun _ _=>False) (xs.map fun(v:Nat)=>[.int .i64 (v:Nat)]):=by
  refine⟨?_,?_,fun _ _ h=>h.elim,?_⟩
  . rintro i h F ⟨S,_,rfl⟩;exact⟨S.ok,fun b l=>S.key_lt (by simpa [keys]using l)⟩
  . rintro i h F h' ⟨S,a,rfl⟩ Q;exact⟨S.call Q,a,rfl⟩
  . rintro i x hR F B ⟨S,a,rfl⟩;have q:i<xs.length:=(by have:=(List.getElem?_eq_some_iff.1 B).1;simpa using this);rw [Xj,Xb q]at B;cases B;have s:=A _ (Xe q);have V:eu n (fun u=>decide (u∈xs.take (i+1))||f u)=(eu n (fun u=>decide (u∈xs.take i)||f u)).set xs[i] (.bool true):=(by rw [BH];refine mO fun j _=>?_;rw [Xf q];simp only [Xw,XG];by_cases W:j=xs[i]<;>by_cases Y:j∈xs.take i<;>simp [W,Y]);rw [V];generalize xs[i]=x at s;subst J;refine ii (S.get m0) (by rw [Tryz.e266];rfl) rfl ?_;have Z:=S;replace S:=S.base;simp only [BZ,seval];refine gu S (i:=0) rfl rfl rfl rfl rfl ?_;clear S;intro h S;simp only [LC]at S;simp only [BZ,s,S.ld (b:=m) (o:=0) m3 rfl,S.ld (b:=t) (o:=0) m2 rfl,seval];refine aC (aE S (i:=4) rfl Tryz.t4.2.2.1 qU (by rw [uc];exact s) ono) ?_;clear S;rintro h ⟨S,_⟩;simp only [LC]at S;simp only [BZ];refine dP S (i:=0) rfl ?_;clear S;intro h S;simp only [LC]at S;refine .inl ⟨rfl,_,⟨Z.rebase S,by omega,rfl⟩,?_,fun c hc=>.inl hc⟩;have:=S.fr;simp only [keys,Xv,Xz,Xs,Xx]at this;exact this
 refine cH (K w _ _ (fun _ _ h=>h) P I [w,z,t,m,d] ?_ ⟨by rw [<-M];exact p,Xh _,rfl⟩) fun o rc h' y=>i6 y ?_
 . have kn:=S.fr.n;refine⟨p.ok,p.fr.n,fun b l hd=>p.fr.get b l (fun e=>E (e▸hd)),fun b l h=>?_,fun b l=>p.key_lt (by simpa [keys]using l)⟩;simp only [Xk,Xg,or_false]at l;rcases l with rfl|rfl|rfl|rfl|rfl
   . omega
   . omega
   . omega
   . omega
   . exact E h.2
 . rintro F ⟨T,_,rfl⟩;rw [Xp,Xq]at T;subst J;refine⟨_,T.get m0,Xy,?_⟩;replace T:=T.dead;have S:=T;show Run _ _ _ _ _ _ _ _;simp only [BZ,S.ld (b:=m) (o:=0) m2 rfl,seval];refine cS (gG [z] _ (L:=[(t,_),(m,_),(d,_)]) T.base fun h4 S4=>?_);refine⟨rfl,(dK (by decide)).2 (bQ.2 ?_)⟩;have U:=T.rebase S4;exact⟨U.fr,rfl,U.row m2⟩
theorem anyT_ok  (K:OZ h0)  (k:Good γ) {L:Nat} {y:Value}  (z:aQ h0 L (ptrTo t) γ) (F:b<γ.nodes) (A:aD h0 1 bO y xs) (l:xs=[b]):
 Ret zM 242 [ptrTo t,y] h0 fun r h'=>Gr h0 h'/\ ∃d,r=.slice (some ⟨d,0,none⟩) γ.arcs.length γ.arcs.length/\Row h' d (eu γ.arcs.length (j9 γ b)) 1/\h0.n<=d:=by
 have S:=Si K;have G:=k.many;have fL:=A.fl;have hl:xs.length=1:=by rw [l];rfl
 refine aa (n:=32) (rs:=[.tmp 4]) rfl Tryz.e242 rfl rfl rfl (lbt rfl) ?_;simp only [BZ,seval];refine ag (kP S.ok z) ?_;intro h1 M;replace S:=S.call M;simp only [BZ,seval];have B:=S.gr;have m:=S.ok;clear S;have S:=Si m;rename Hp=>hA;refine ac (mr (by exact Tryz.t100.1) (by exact Tryz.e4E) (by omega) (by omega)) S ?_;clear S;intro h d S p;have N:bJ [Value.bool false] γ.arcs.length=eu γ.arcs.length (fun a=>decide (0=1)&&j9 γ b a):=by rw [oV];unfold eu;simp [List.map_const']
 rw [Xl,N]at S;simp only [BZ,Xl,A.lenq,seval];refine bA (fun(i:Nat) f h=>i<=1/\St NoM hA h [(d,.row (eu γ.arcs.length (fun a=>decide (i=1)&&j9 γ b a)) 1)] []/\f 0=ptrTo t/\f 5=.slice (some ⟨d,0,none⟩) γ.arcs.length γ.arcs.length/\f 13=y/\f 14=.int .i64 (xs.length:Nat)/\f 15=.int .i64 i) (fun i=>1-i) ?_ 0 _ _ ?_
 . clear S;intro i O f h ⟨hi,S,r0,r5,r13,r14,r15⟩;have w:aq .i64 ((i:Int)+1)=((i+1:Nat):Int):=(by rw [wrap64]<;>omega);have C:=B.trans S.gr;by_cases hlt:i<xs.length
   . have H:i=0:=(by omega);obtain⟨c,o,P,q⟩:=(A.gr C).ix (kd:=.i64) dw hlt;have Q:xs[i]=b:=(by subst l;subst H;rfl);rw [Q]at q;replace q:h.load c o 1=some [.int .i64 (b:Nat)]:=q;simp only [BZ,r0,r13,r14,r15,aI,hlt,P,q,seval];refine ag (Dx S.ok (z.gr C) F) ?_;intro h2 R;replace S:=S.call R;have hS:=S.gr;have D:=(S.row (b:=d) m0).lt S.ok;simp only [BZ,r0,r5,seval];refine step_ret (tells_ok m S.ok S.gr (x:=d) p D k (z.gr B) F) ?_;rintro v h3 ⟨I,T,U,rfl,n2,n5,hf⟩;replace S:=S.call I;have E:=S.ok;simp only [BZ,seval];refine step_ret (marked_ok S.ok (n:=γ.arcs.length) fD) ?_;rintro v h4 ⟨s,V,W,rfl,n1,n3,X,Y⟩;have Z:=marked_it E s.ok s.keep s.n (x:=d) (by omega) (g:=279) (post:=#[ptrTo T,ptrTo U]) hf X Y;have kg:=I.n;replace S:=S.call s;simp only [BZ,seval];refine step_ret (putB_ok S.ok (S.row (b:=d) m0) (g:=278) (post:=#[ptrTo V,ptrTo W]) Z (fun h=>?_) (fun x hx=>List.mem_range.1 (List.mem_filter.1 hx).1) (Xo sK (by omega))) ?_
     . rcases h with h|h|h
       . omega
       . omega
       . exact h.2 rfl
     . rintro v h5 ⟨f5,rfl,R5⟩;have J:=S.call1 (i:=0) (o':=.row _ 1) rfl f5 R5;simp only [XH]at J;simp only [BZ,r15,w,seval];refine O (i+1) _ _ (by omega) ⟨by omega,?_,by simp [aG,r0,ah,r13,r14]⟩;have e:eu γ.arcs.length (fun a=>decide (i+1=1)&&j9 γ b a)=eu γ.arcs.length (fun u=>decide (u∈(zO γ.arcs.length).filter (j9 γ b))||(decide (i=1)&&j9 γ b u)):=mO fun j hj=>(by subst H;simp [XD,hj]);rw [e];exact J
   . have i1:i=1:=(by omega);simp only [BZ,ab,r5,r14,r15,aI,hlt,seval];refine⟨C,d,rfl,?_,by have:=B.n;omega⟩;have e:eu γ.arcs.length (j9 γ b)=eu γ.arcs.length (fun a=>decide (i=1)&&j9 γ b a):=mO fun j _=>(by rw [decide_eq_true i1,Bool.true_and]);rw [e];exact S.row m0
 . exact⟨Xh _,S,by simp [aG,cZ,ah]⟩
theorem arcsT_ok(g:OZ h0)(c:Good γ){e:Nat}(j:aQ h0 i (ptrTo e) γ)(k:b<γ.nodes):
 Ret zM 186 [ptrTo e,.int .i64 (b:Nat)] h0 fun r h'=>Gr h0 h'/\ ∃a,r=.slice (some ⟨a,0,none⟩) γ.arcs.length γ.arcs.length/\Row h' a (eu γ.arcs.length (j9 γ b)) 1/\h0.n<=a:=by
 have S:=Si g;refine aa (n:=9) (rs:=[.tmp 4]) rfl Tryz.e186 rfl rfl rfl (lbt rfl) ?_;simp only [BZ,seval];refine ac (cd (by exact Tryz.t41.1) (by exact Tryz.e3E) (by decide) (by rfl)) S ?_;clear S;intro h d S f;simp only [LC,bJ,bZ,ae,XV,XC,XX,XY,seval]at S;simp only [BZ,seval];have l:aD h 1 bO (.slice (some ⟨d,0,none⟩) 1 1) [b]:=.inr ⟨d,0,none,1,rfl,Xt _,S.lds (b:=d) (o:=0) (n:=1*1) m0 (lbt rfl)⟩;have p:=S.fr.n;refine step_ret (anyT_ok S.ok c (j.gr S.gr) k l rfl) ?_;rintro r q ⟨m,a,rfl,R,s⟩;replace S:=S.call m;simp only [BZ,ab,seval];exact⟨S.gr,a,rfl,R,by omega⟩
def Own(B:Nat->Prop)(hB h:Hp)(F:List Nat):Prop:=hB.n<=h.n/\ ∀b,B b->b<hB.n/\b∉F/\h.get b=hB.get b
theorem Own.gr(o:Own B hB h F)(g:Gr h h'):Own B hB h' F:=
 ⟨Xo o.1 g.n,fun b a=>⟨(o.2 b a).1,(o.2 b a).2.1,(g.get b (Xc (o.2 b a).1 o.1)).trans (o.2 b a).2.2⟩⟩
theorem Own.mo{F':List Nat}(o:Own B hB h F)(m:Mo (· ∈F) h h')(d: ∀b∈F',b∈F\/h.n<=b):Own B hB h' F':=
 ⟨Xo o.1 m.n,fun b e=>by
  obtain⟨a,c,f⟩:=o.2 b e;have hlt:=Xc a o.1;exact⟨a,fun g=>(d b g).elim c (fun h=>by omega),(m.get b hlt c).trans f⟩⟩
section
variable{γ:Gra}{nb mb bp k:Nat}{p:Value}{m:List Int}{c:Nat->Nat}
theorem won_ok(r:OZ h0){I:Nat}{J:Nat->Hp->List Nat->Prop}{Z:Out->Hp->Prop}{xs:List (List Value)}(t:Good γ)(M: ∀v h,¬Z (.pan v) h)(Y:Yld zM I J Z xs)(x:B b)(N:hB.load b 0 1=some [.func (.yield I) #[] #[]])(O:D u)(P:h0.load u 0 1=some [ptrTo bp])(e: ∀h F,ItS h0 D h F->aQ h nb (ptrTo bp) γ)
  {post:Array Value}  (y: ∀h F,ItS h0 D h F->Own B hB h F-> ∀a,a<γ.arcs.length->aT zM g ([.int .i64 (a:Nat)]++post.toList) h (.bool (f a)))  (Q: ∀a,a<γ.arcs.length->f a=true->xs[j+((zO a).filter f).length]? =some [.int .i64 (a:Nat)])   (s:ItS h0 D h F) (o:Own B hB h F) (l:J j h F):
 Ret zM 182 [.func (.func g) #[] post,ptrTo u,ptrTo b] h fun v h'=>(v=.bool true/\ ∃F',ItS h0 D h' F'/\Own B hB h' F'/\J (j+((zO γ.arcs.length).filter f).length) h' F')\/(v=.bool false/\Z (.ret (.bool false)) h'):=by
 have K:=t.many;have R:=s.load r P O;refine aa (n:=21) (rs:=[.tmp 4]) rfl Tryz.e182 rfl rfl rfl (lbt rfl) ?_;simp only [BZ,R,seval];refine ag (kP s.ok (e _ _ s)) ?_;intro U z;simp only [BZ];refine bA (fun(i:Nat) q h=>i<=γ.arcs.length/\ ∃F,ItS h0 D h F/\Own B hB h F/\J (j+((zO i).filter f).length) h F/\q 0=.func (.func g) #[] post/\q 2=ptrTo b/\q 7=.int .i64 (γ.arcs.length:Nat)/\q 8=.int .i64 i) (fun i=>γ.arcs.length-i) ?_ 0 _ _ ?_
 . intro i L q h ⟨hi,F,s,o,l,r0,r2,r7,r8⟩;have w:aq .i64 ((i:Int)+1)=((i+1:Nat):Int):=(by rw [wrap64]<;>omega);by_cases hlt:i<γ.arcs.length
   . simp only [BZ,r0,r7,r8,aI,hlt,seval];refine ag (y _ _ s o i hlt) ?_;intro V d;have A:=nI N ((o.gr d).2 b x).2.2;cases C:f i with
     | true=>
       have E:((zO (i+1)).filter f).length=((zO i).filter f).length+1:=(by rw [kJ,if_pos C];simp);simp only [BZ,r2,A,seval];refine c7 Y (s.gr d) (Y.gr _ _ _ _ l d) (i:=j+((zO i).filter f).length) (Q i hlt C) ?_ ?_ ?_
       . intro G S a T m3 H;simp only [BZ,r8,w,seval];exact L (i+1) _ _ (by omega) ⟨by omega,S,T,(o.gr d).mo m3 H,by rw [E];exact a,by simp [aG,r0,r2,ah,r7]⟩
       . intro G a _;simp only [BZ,ab,seval];exact .inr a
       . intro v G a;exact absurd a (M v G)
     | false=>have E:(zO (i+1)).filter f=(zO i).filter f:=(by rw [kJ,if_neg (by rw [C];decide)];simp);simp only [BZ,r8,w,seval];exact L (i+1) _ _ (by omega) ⟨by omega,F,s.gr d,o.gr d,by rw [E];exact Y.gr _ _ _ _ l d,by simp [aG,r0,r2,ah,r7]⟩
   . have:i=γ.arcs.length:=(by omega);subst this;simp only [BZ,ab,r7,r8,aI,hlt,seval];exact .inl ⟨F,s,o,l⟩
 . exact⟨Xh _,F,s.gr z,o.gr z,Y.gr _ _ _ _ l z,by simp [aG,cZ,ah]⟩
theorem worth_ok(f:OZ h0)(g:Fl p):Ret zM 98 [ptrTo bp,p,.int .i64 (k:Nat)] h0 fun v h'=>Gr h0 h'/\ ∃a b4 b5,v=.func (.func 181) #[] #[ptrTo a,ptrTo b4,ptrTo b5]/\h0.n<=a/\h0.n<=b4/\h0.n<=b5/\h'.load a 0 1=some [ptrTo bp]/\h'.load b4 0 1=some [p]/\h'.load b5 0 1=some [.int .i64 (k:Nat)]:=by have S:=Si f;refine aa (n:=8) (rs:=[.tmp 6]) rfl Tryz.e98 rfl rfl rfl (lbt rfl) ?_;simp only [BZ,seval];refine ac (bK (by exact bF)) S ?_;clear S;intro h a S b;simp only [BZ,if_false,seval];refine ac (bK (by assumption)) S ?_;clear S;intro h b4 S d;simp only [BZ,if_false,seval];refine ac (bK (by exact aJ)) S ?_;clear S;intro h b5 S e;simp only [BZ,ab,seval];exact⟨S.gr,a,b4,b5,rfl,b,d,e,S.ld m2 rfl,S.ld m1 rfl,S.ld m0 rfl⟩
def insB(γ:Gra)(c:Nat->Nat)(k a:Nat):Bool:=decide (c (γ.arcs.getD a default).s=k/\c (γ.arcs.getD a default).t=k)
theorem worth2_ok(e:OZ h)(b:Good γ)(f:aQ h nb (ptrTo bp) γ)(x:ia h mb p γ.nodes m c)(g:h.load d 0 1=some [ptrTo bp])(i:h.load b4 0 1=some [p])(j:h.load b5 0 1=some [.int .i64 (k:Nat)])(l:a<γ.arcs.length):
 aT zM 183 ([.int .i64 (a:Nat)]++[ptrTo d,ptrTo b4,ptrTo b5]) h (.bool (insB γ c k a)):=by
 refine aa (n:=11) (rs:=[.tmp 5]) rfl Tryz.e183 rfl rfl rfl (lbt rfl) ?_;simp only [BZ,g,i,j,seval];refine ag (inside_ok (N:=0) e b f x l) ?_;intro q o;simp only [BZ,ab,seval];exact⟨rfl,o⟩
theorem worth3_ok(g:OZ h)(i:h.load b 0 1=some [.slice (some ⟨d,0,none⟩) n n])(R:Row h d (eu n f) 1)(e:a<n):
 aT zM 187 ([.int .i64 (a:Nat)]++[ptrTo b]) h (.bool (f a)):=by
 have S:=Si g;have j:=R.load1 (bolC_at (f:=f) e);have l:(a:Int)<(n:Int):=by omega
 refine aa (n:=14) (rs:=[.tmp 3]) rfl Tryz.e187 rfl rfl rfl (lbt rfl) ?_;simp only [BZ,ab,i,l,e,j,seval];exact S.gr
theorem flat_at{a b:Type}{f:a->List b}{l:List a}{q:Nat}{x:b}(d:j<l.length)(h:(f l[j])[q]? =some x):(l.flatMap f)[((l.take j).flatMap f).length+q]? =some x:=by
 have e:l=l.take j++l[j]::l.drop (j+1):=by rw [<-XK d,List.take_append_drop]
 conv=>lhs;rw [e]
 rw [XS,List.flatMap_cons,Xu (by simp)];have g:=(List.getElem?_eq_some_iff.1 h).1;have i:(Xm j l++l[j]::Xn (j+1) l).take j=l.take j:=by rw [<-e]
 rw [i,XL,Xr g];exact h
noncomputable def qh(γ:Gra)(b:Nat):List Nat:=(zO γ.arcs.length).filter (j9 γ b)
noncomputable def dR(γ:Gra)(c:Nat->Nat)(k:Nat):List Nat:=(zO γ.arcs.length).filter (insB γ c k)++((zO γ.nodes).filter (borB γ c k)).flatMap (qh γ)
theorem worth1_it  (K:OZ hq) (t:OZ h0) (kq:fV hq h0) (nq:hq.n<=h0.n) (y:Good γ) (hn:aQ hq nb (ptrTo bp) γ) (x:ia hq mb p γ.nodes m c) {z:Nat} (M:h0.load z 0 1=some [ptrTo bp]) (e4:h0.load b4 0 1=some [p]) (e5:h0.load b5 0 1=some [.int .i64 (k:Nat)]):
 m9 zM 181 [] [ptrTo z,ptrTo b4,ptrTo b5] h0 (fun c=>c=z\/c=b4\/c=b5\/c<hq.n) ((dR γ c k).map fun(a:Nat)=>[.int .i64 (a:Nat)]):=by
 intro lb J Z hz Y h F s N;have n2:=y.n2;have fp:Fl p:=by obtain⟨b,_,rfl,_⟩:=x.at0;exact bF
 have kN: ∀h F,ItS h0 (fun c=>c=z\/c=b4\/c=b5\/c<hq.n) h F->fV hq h:=fun h F s=>s.keep kq nq (fun c W=>.inr (.inr (.inr W)));have u: ∀h F,ItS h0 (fun c=>c=z\/c=b4\/c=b5\/c<hq.n) h F->aQ h nb (ptrTo bp) γ:=fun h F s=>hn.keep K (kN h F s);have C: ∀h F,ItS h0 (fun c=>c=z\/c=b4\/c=b5\/c<hq.n) h F->ia h mb p γ.nodes m c:=fun h F s=>x.keep K (kN h F s);have X: ∀a,a<γ.arcs.length->insB γ c k a=true->((dR γ c k).map fun(a:Nat)=>[Value.int .i64 (a:Nat)])[0+((zO a).filter (insB γ c k)).length]? =some [.int .i64 (a:Nat)]:=fun a E q=>by have Q:=uQ q _ E;unfold dR;rw [XC,Xj,Xr (List.getElem?_eq_some_iff.1 Q).1,Q];rfl
 have S:=Si s.ok;refine enter (n:=31) (rs:=[]) rfl Tryz.e181 rfl rfl rfl (lbt rfl) ?_;simp only [BZ,seval];refine ac (bK (by exact fD)) S ?_;clear S;intro h l S ad;have s1:=s.gr S.gr;have j1:=Y.gr _ _ _ _ N S.gr;have zy:=(S.row (b:=l) m0).lt S.ok;have ly:=S.ld (b:=l) (o:=0) m0 rfl;have o1:Own (· =l) _ _ F:=⟨Xt _,fun b q=>⟨by subst q;exact zy,fun D=>by subst q;have:=s.lt _ D;omega,rfl⟩⟩;simp only [BZ,seval];refine step_ret (won_ok t y hz Y (B:=(· =l)) rfl ly (.inl rfl) M u (g:=183) (post:=#[ptrTo z,ptrTo b4,ptrTo b5]) (f:=insB γ c k) (fun h F s _ a E=>worth2_ok s.ok y (u _ _ s) (C _ _ s) (s.load t M (.inl rfl)) (s.load t e4 (.inr (.inl rfl))) (s.load t e5 (.inr (.inr (.inl rfl)))) E) X s1 o1 j1) ?_;rintro v h2 (⟨rfl,F2,A,o2,j2⟩|⟨rfl,z2⟩)
 . simp only [BZ,A.load t M (.inl rfl),A.load t e4 (.inr (.inl rfl)),A.load t e5 (.inr (.inr (.inl rfl))),seval];refine step_ret (border_ok A.ok y (u _ _ A) (C _ _ A) (k:=k)) ?_;rintro H hB ⟨gB,R,nB⟩;have sA:=A.gr gB;have jA:=Y.gr _ _ _ _ j2 gB;have T:=o2.gr gB;have lB:hB.load l 0 1=some [.func (.yield lb) #[] #[]]:=nI ly (T.2 l rfl).2.2;have af:l<hB.n:=Xc zy T.1;have oB:Own (fun c=>c=l\/au H c) hB hB F2:=⟨Xt _,fun b q=>⟨q.elim (fun e=>by subst e;exact af) (fun h=>R.lt sA.ok h),fun D=>q.elim (fun e=>(T.2 b e).2.1 D) (fun h=>by have:=nB b h;have:=A.lt b D;omega),rfl⟩⟩;generalize U:(zO γ.nodes).filter (borB γ c k)=L at R;have ai: ∀b∈L,b<γ.nodes:=fun b q=>(by rw [<-U]at q;exact List.mem_range.1 (List.mem_filter.1 q).1);have al:L.length<=γ.nodes:=(by rw [<-U];exact sK);simp only [BZ,R.lenq,seval];refine bA (fun(j:Nat) I h=>j<=L.length/\ ∃F,ItS h0 (fun c=>c=z\/c=b4\/c=b5\/c<hq.n) h F/\Own (fun c=>c=l\/au H c) hB h F/\J (((zO γ.arcs.length).filter (insB γ c k)).length+((L.take j).flatMap (qh γ)).length) h F/\I 1=ptrTo z/\I 5=.func (.func 182) #[] #[ptrTo z,ptrTo l]/\I 17=H/\I 18=.int .i64 (L.length:Nat)/\I 19=.int .i64 j) (fun j=>L.length-j) ?_ 0 _ _ ?_
   . clear S s1 j1 o1 A j2 o2 sA jA T oB;intro j ih I h ⟨hj',F,s,o,N,r1,r5,r17,r18,r19⟩;have w:aq .i64 ((j:Int)+1)=((j+1:Nat):Int):=(by rw [wrap64]<;>omega);by_cases hlt:j<L.length
     . have q:=ai _ (Xe hlt);have sl:aD h 1 bO H L:=sl_get R (fun c W=>(o.2 c (.inr W)).2.2);obtain⟨d,oo,x0,V⟩:=sl.ix (kd:=.i64) dw hlt;have O: ∀a,a<γ.arcs.length->j9 γ L[j] a=true->((dR γ c k).map fun(a:Nat)=>[Value.int .i64 (a:Nat)])[((zO γ.arcs.length).filter (insB γ c k)).length+((L.take j).flatMap (qh γ)).length+((zO a).filter (j9 γ L[j])).length]? =some [.int .i64 (a:Nat)]:=fun a E q=>(by have Q:(qh γ L[j])[((zO a).filter (j9 γ L[j])).length]? =some a:=uQ q _ E;unfold dR;rw [U,Xj,Nat.add_assoc,Xu (by omega),XL,flat_at hlt Q];rfl);have tk:((L.take (j+1)).flatMap (qh γ)).length=((L.take j).flatMap (qh γ)).length+((zO γ.arcs.length).filter (j9 γ L[j])).length:=(by rw [Xf hlt,XS,List.length_append];simp [qh]);generalize L[j]=b at q V O tk;replace V:h.load d oo 1=some [.int .i64 (b:Nat)]:=V;simp only [BZ,r1,r17,r18,r19,aI,hlt,x0,V,s.load t M (.inl rfl),seval];refine step_ret (arcsT_ok s.ok y (u _ _ s) q) ?_;rintro r h4 ⟨g4,bl,rfl,R4,nl⟩;have S:=Si g4.ok;simp only [BZ];refine ac aB S ?_;clear S;intro h P S ak;simp only [BZ,seval];refine aC (aE S (i:=0) rfl Tryz.t100.2.2.1 bg (Xd (lbt rfl)) ono) ?_;clear S;rintro h5 ⟨S,_⟩;simp only [LC]at S;have g5:=g4.trans S.gr;have s5:=s.gr g5;have j5:=Y.gr _ _ _ _ N g5;have G:=o.gr g5;have R8:=S.row (b:=P) m0;have Rl:=R4.gr S.gr;have k4:=g4.n;have oC:Own (fun c=>(c=l\/au H c)\/c=P\/c=bl) h5 h5 F:=⟨Xt _,fun b q=>by
        rcases q with q|rfl|rfl
        . exact⟨Xc (G.2 b q).1 G.1,(G.2 b q).2.1,rfl⟩
        . exact⟨R8.lt S.ok,fun D=>by have:=s.lt _ D;omega,rfl⟩
        . exact⟨Rl.lt S.ok,fun D=>by have:=s.lt _ D;omega,rfl⟩⟩
       have l5:h5.load l 0 1=some [.func (.yield lb) #[] #[]]:=nI lB (G.2 l (.inl rfl)).2.2;simp only [BZ,r5,seval];refine step_ret (won_ok t y hz Y (B:=fun c=>(c=l\/au H c)\/c=P\/c=bl) (.inl (.inl rfl)) l5 (.inl rfl) M u (g:=187) (post:=#[ptrTo P]) (f:=j9 γ b) (fun h F s o a E=>worth3_ok s.ok (nI (R8.load1 (o:=0) rfl) (o.2 P (.inr (.inl rfl))).2.2) (Row.of_get (o.2 bl (.inr (.inr rfl))).2.2 Rl) E) O s5 oC j5) ?_;rintro v h6 (⟨rfl,F6,s6,o6,j6⟩|⟨rfl,z6⟩)
       . simp only [BZ,r19,w,seval];refine ih (j+1) _ _ (by omega) ⟨by omega,F6,s6,⟨Xo G.1 o6.1,fun b q=>⟨(G.2 b q).1,(o6.2 b (.inl q)).2.1,(o6.2 b (.inl q)).2.2.trans (G.2 b q).2.2⟩⟩,by rw [tk,<-Nat.add_assoc];exact j6,by simp [aG,r1,ah,r5,r17,r18]⟩
       . simp only [BZ,seval];exact iA rfl ⟨rfl,.inr (.inl ⟨_,rfl,z6⟩)⟩
     . have:j=L.length:=(by omega);subst this;simp only [BZ,r18,r19,aI,hlt,seval];refine cg (bV ⟨rfl,_,rfl,rfl,.inl ⟨_,F,rfl,?_⟩⟩);rw [Xq]at N;rw [Xp];unfold dR;rw [List.length_append,U];exact N
   . exact⟨Xh _,F2,sA,oB,by simpa using jA,by simp [aG,cZ,ah]⟩
 . simp only [BZ,seval];exact iA rfl ⟨rfl,.inr (.inl ⟨_,rfl,z2⟩)⟩
end
def OkB(γ:Gra)(c:Nat->Nat)(b k i:Nat)(B:Nat->Nat):Prop:= ∀d a,a/8<b->(iD B b d a=true↔(d<k/\a∈dR γ c d)\/(d=k/\a∈(dR γ c k).take i))
theorem OkB.zero:OkB γ c b 0 0 (fun _=>0):=fun d a _=>by simp [iD]
theorem OkB.next{B:Nat->Nat}(o:OkB γ c b k (dR γ c k).length B):OkB γ c b (k+1) 0 B:=fun f a g=>by
 rw [o f a g,Xq];simp only [XO,Xg,and_false,or_false];constructor
 . rintro(⟨h,d⟩|⟨rfl,d⟩)
   . exact⟨by omega,d⟩
   . exact⟨by omega,d⟩
 . rintro⟨h,d⟩;by_cases e:f=k
   . subst e;exact .inr ⟨rfl,d⟩
   . exact .inl ⟨by omega,d⟩
theorem OkB.set{B:Nat->Nat}(m:b=(γ.arcs.length+7)/8)(o:OkB γ c b k i B)(j:i<(dR γ c k).length)(hlt:(dR γ c k)[i]<γ.arcs.length):OkB γ c b k (i+1) (cJ B (k*b+(dR γ c k)[i]/8) (setB (B (k*b+(dR γ c k)[i]/8)) ((dR γ c k)[i]%8))):=fun g a l=>by
 rw [bitB_set (by omega) (by omega),Xf j];by_cases e:g=k/\a=(dR γ c k)[i]
 . rw [if_pos e];obtain⟨rfl,e⟩:=e;subst e;exact⟨fun _=>.inr ⟨rfl,List.mem_append.2 (.inr (List.mem_singleton.2 rfl))⟩,fun _=>rfl⟩
 . rw [if_neg e,o g a l];simp only [Xw,XG];constructor
   . rintro(h|⟨f,d⟩)
     . exact .inl h
     . exact .inr ⟨f,.inl d⟩
   . rintro(h|⟨f,d|d⟩)
     . exact .inl h
     . exact .inr ⟨f,d⟩
     . exact absurd ⟨f,d⟩ e
theorem zD(h:a∈dR γ c k):a<γ.arcs.length:=by
 unfold dR at h;rcases List.mem_append.1 h with h|h
 . exact List.mem_range.1 (List.mem_filter.1 h).1
 . obtain⟨b,_,h⟩:=List.mem_flatMap.1 h;exact List.mem_range.1 (List.mem_filter.1 h).1
theorem perm_db{c:Type}{x a b d:c}{l:List c}:List.Perm (x::([a,b]++(d::l))) ([d,x,a,b]++l):=by show List.Perm ([x,a,b]++d::l) (d::([x,a,b]++l));exact List.perm_middle
theorem zT{L:List (Nat×Ob)}{a:List Nat}:keys (L++dJ a) []=L.map Prod.fst++a:=by simp [keys,dJ,XJ]
theorem ofB_ok  (ok:OZ h0)  {mb bp cb:Nat}   {M:Nat} (C:Good γ) (hn:aQ h0 nb (ptrTo bp) γ) (x:ia h0 mb (ptrTo cb) γ.nodes m c) (hM:gY m+1=(M:Int)) (P:M<=100):
 Ret zM 38 [ptrTo bp,ptrTo cb] h0 fun r h'=>Gr h0 h'/\ ∃s f B,r=ptrTo s/\h0.n<=s/\h0.n<=f/\s≠f/\iB h' s f M γ.arcs.length ((γ.arcs.length+7)/8) B/\OkB γ c ((γ.arcs.length+7)/8) M 0 B:=by
 have S:=Si ok;have n1:=C.n1;have n2:=C.n2;have af:=C.many;have xl:=x.len;have co: ∀{h},Gr h0 h->mS h (ptrTo cb) m (M:Int):=fun g=>.inr ⟨⟨_,(x.gr g).at0⟩,by rw [hM]⟩;refine aa (n:=33) (rs:=[.tmp 4]) rfl Tryz.e38 rfl rfl rfl (lbt rfl) ?_;simp only [BZ,seval];refine ag (A9 S.ok hn (co S.gr) n1 (by omega)) ?_;intro h1 g1;replace S:=S.call g1;simp only [BZ,xl,seval];refine ag (y9 S.ok (co S.gr)) ?_;intro N Q;replace S:=S.call Q;simp only [BZ,seval];refine ag (kP S.ok (hn.gr S.gr)) ?_;intro h3 g3;replace S:=S.call g3;simp only [BZ,seval];refine step_ret (bmNew_ok S.ok P (by omega)) ?_;rintro r u ⟨R,s,f,rfl,nf,al,E,U⟩;have k3:=S.gr.n;have an:=S.ok;have gq:=S.gr.trans R;have kN:=R.n;have gS:=S.gr;clear S;have S:St (· =f) u u [(f,.row _ 1)] []:=St.init1 R.ok (o:=.row _ 1) U.b;have zf:=U.b.lt R.ok;have zp:=U.r.lt R.ok;simp only [BZ];refine ac aB S ?_;clear S;intro h t S ai;simp only [BZ,seval];refine aC (aE S (i:=0) rfl ?_ ?_ ?_ ono) ?_
 . exact(by simp only [FA0])
 . exact(by exact bF)
 . exact Xd (lbt rfl)
 clear S;rintro h ⟨S,mo⟩;clear mo;simp only [LC,ae,lay,Xm,Xn,seval]at S;simp only [BZ,seval];have gO: ∀{h:Hp} {L:List (Nat×Ob)} {G:List GL},St (· =f) u h L G->Gr h0 h:=fun S=>(gq.fr.trans S.fr (fun b e=>.inr (by subst e;omega)):Mo NoM _ _).gr;have kO: ∀{h:Hp} {L:List (Nat×Ob)} {G:List GL},St (· =f) u h L G->iB u s f M γ.arcs.length ((γ.arcs.length+7)/8) (fun _=>0)->Row h s [.int .i64 M,.int .i64 γ.arcs.length,.int .i64 ((γ.arcs.length+7)/8:Nat),.slice (some ⟨f,0,none⟩) (M*((γ.arcs.length+7)/8)) (M*((γ.arcs.length+7)/8))] 1:=fun S b=>Row.of_get (S.fr.get s zp E) b.r;have hr:=fun {h:Hp} {L:List (Nat×Ob)} {G:List GL} (S:St (· =f) u h L G)=>kO S U;refine ag (y9 S.ok (co (gO S))) ?_;intro h4 g4;replace S:=S.call g4;simp only [BZ];generalize z:(γ.arcs.length+7)/8=l at*
 refine rM (fun(k:Nat) O d h=>k<=M/\ ∃p B,d=p.map rX/\St (· =f) u h ([(t,.row [ptrTo s] 1),(f,.row (kI (M*l) B) 1)]++dJ p) []/\(∀j,B j<256)/\OkB γ c l k 0 B/\O 0=ptrTo bp/\O 1=ptrTo cb/\O 5=ptrTo t/\O 18=.int .i64 (M:Nat)/\O 19=.int .i64 k) (fun k=>M-k) ?_ 0 _ _ _ ?_
 . clear S g4;rintro k ih O d h ⟨hk,p,B,rfl,S,hB,oB,r0,r1,r5,r18,r19⟩;have w:aq .i64 ((k:Int)+1)=((k+1:Nat):Int):=(by rw [wrap64]<;>omega);by_cases hlt:k<M
   . simp only [BZ,r18,r19,aI,hlt,seval];refine ac aB S ?_;clear S;intro h A S ak;simp only [BZ,seval];refine aC (aE S (i:=0) rfl ?_ ?_ ?_ ono) ?_
     . exact(by simp only [FA0])
     . exact(by exact aJ)
     . exact Xd (lbt rfl)
     clear S;rintro h ⟨S,mo⟩;clear mo;simp only [LC,ae,lay,Xm,Xn,seval]at S;simp only [BZ,r0,r1,S.ld (b:=A) (o:=0) m0 rfl,seval];refine step_ret (worth_ok S.ok (k:=k) bF) ?_;rintro v hW ⟨gW,w3,w4,w5,rfl,n3,n4,n5,e3,e4,e5⟩;have kk: ∀b∈[A,t,f]++p,h0.n<=b/\b<w3/\b<w4/\b<w5/\b<hW.n:=fun b q=>(by have hm:b∈keys ([(A,Ob.row [.int .i64 (k:Nat)] 1),(t,.row [ptrTo s] 1),(f,.row (kI (M*l) B) 1)]++dJ p) []:=(by rw [zT];exact q);have h1:=S.key_lt hm;have N:=S.key_own hm;have h3:=gW.n;have h4:h0.n<=b:=N.elim (fun h=>by omega) (fun h=>by subst h;omega);omega);replace S:=S.call gW;have ax:=gW.n;have V:=gO S;have zN:=S.fr.n;have it:=worth1_it ok S.ok V.keep V.n C hn x e3 e4 e5;simp only [BZ];refine ie S (g:=181) (a:=#[]) (b:=#[ptrTo w3,ptrTo w4,ptrTo w5]) (by simp [bI,aG,ah]) rfl rfl ?_;intro N D H W ay aL Q;obtain⟨X,hX,W⟩: ∃X:fZ,X=_/\St (· =f) u N ([(H,.loop X),(D,.dfr),(A,.row [.int .i64 (k:Nat)] 1),(t,.row [ptrTo s] 1),(f,.row (kI (M*l) B) 1)]++dJ p) []:=⟨_,rfl,W⟩;have hJ:Yld zM H (fun i h' F=> ∃B,St (· =f) u h' ([(H,.loop X),(D,.dfr),(A,.row [.int .i64 (k:Nat)] 1),(t,.row [ptrTo s] 1),(f,.row (kI (M*l) B) 1)]++dJ p) []/\(∀j,B j<256)/\OkB γ c l k i B/\F=[H,D,A,t,f]++p) (fun _ _=>False) ((dR γ c k).map fun(a:Nat)=>[.int .i64 (a:Nat)]):=by
      refine⟨?_,?_,fun _ _ h=>h.elim,?_⟩
      . rintro i h F ⟨B,S,_,_,rfl⟩;exact⟨S.ok,fun b q=>S.key_lt (by rw [zT];exact q)⟩
      . rintro i h F h' ⟨B,S,a,b,rfl⟩ gg;exact⟨B,S.call gg,a,b,rfl⟩
      . rintro i x hR F I ⟨B,S,hB,oB,rfl⟩;have J:i<(dR γ c k).length:=(by have:=(List.getElem?_eq_some_iff.1 I).1;simpa using this);rw [Xj,Xb J]at I;cases I;have K:(dR γ c k)[i]<γ.arcs.length:=zD (Xe J);have Y:=oB.set z.symm J K;generalize(dR γ c k)[i]=a at K Y;subst hX;refine ii (S.get m0) (by rw [Tryz.e38];rfl) rfl ?_;have S0:=S;replace S:=S.base;simp only [BZ,seval];refine gu S (i:=0) rfl rfl rfl rfl rfl ?_;clear S;intro h S;simp only [LC]at S;simp only [BZ,r5,S.ld (b:=A) (o:=0) m2 rfl,S.ld (b:=t) (o:=0) m3 rfl,seval];have BA:iB h s f M γ.arcs.length l B:=⟨hr (S0.rebase S),S.row (b:=f) m4,hB⟩;refine step_ret (bSet_ok S.ok BA E hlt K P (by omega) z.symm) ?_;rintro v h5 ⟨f5,rfl,B5⟩;have S5:=S.call1 (i:=4) (o':=.row _ 1) rfl f5 B5.b;simp only [XH,List.set_cons_succ]at S5;clear S;simp only [BZ];refine dP S5 (i:=0) rfl ?_;clear S5;intro h S;simp only [LC]at S;refine .inl ⟨rfl,_,⟨_,S0.rebase S,B5.lt,Y,rfl⟩,?_,fun c hc=>.inl hc⟩;exact S.fr.mono fun b q=>by simpa [keys,dJ,XJ]using q
     refine cH (it H _ _ (fun _ _ h=>h) hJ N ([H,D,A,t,f]++p) ?_ ⟨B,W,hB,oB,rfl⟩) fun o rc h' y=>i6 y ?_
     . have kn:=Q.n;refine⟨W.ok,Q.n,fun b q hd=>Q.get b q,fun b q h=>?_,fun b q=>W.key_lt (by simpa [keys,dJ,XJ]using q)⟩;simp only [Xw,Xk,Xg,or_false]at q;obtain⟨h1,N⟩:=h;have I:b=H\/b=D\/b∈[A,t,f]++p:=by
        rcases q with(q|q|q)|q
        . exact .inl q
        . exact .inr (.inl q)
        . exact .inr (.inr (List.mem_append.2 (.inl (by simpa using q))))
        . exact .inr (.inr (List.mem_append.2 (.inr q)))
       rcases I with rfl|rfl|I
       . omega
       . omega
       . have:=kk b I;omega
     . rintro F ⟨B1,T,ad,Z,rfl⟩;rw [Xp]at Z;subst hX;refine⟨_,T.get m0,Xy,?_⟩;replace T:=T.dead;show Run _ _ _ _ _ _ _ _;have T1:St (· =f) u _ ([(D,.dfr),(A,.row [.int .i64 (k:Nat)] 1),(t,.row [ptrTo s] 1),(f,.row (kI (M*l) B1) 1)]++dJ p) []:=T;have T':St (· =f) u _ ([(t,.row [ptrTo s] 1),(f,.row (kI (M*l) B1) 1)]++(D,.dfr)::dJ p) []:=(T1.permL perm_db).drop1;simp only [BZ,r19,w,seval];exact ih (k+1) _ _ _ (by omega) ⟨by omega,D::p,B1,rfl,T',ad,Z.next,by simp [aG,r0,ah,r1,r5,r18]⟩
   . have:k=M:=(by omega);subst this;have gE:=gO S;have S0:=S;simp only [LC]at S;simp only [BZ,r5,r18,r19,aI,hlt,S.ld (b:=t) (o:=0) m0 rfl,seval];refine cS (gG p _ (L:=[(t,_),(f,_)]) (S0.permL XB) fun h4 S4=>?_);refine⟨rfl,(dK (by decide)).2 (bQ.2 ?_)⟩;refine⟨gO S4,s,f,B,?_,by omega,by omega,E,⟨hr S4,S4.row m1,hB⟩,oB⟩;exact rfl
 . exact⟨Xh _,[],_,rfl,S,U.lt,OkB.zero,by simp [aG,cZ,ah]⟩
theorem get1_ok(g:OZ h0)(l:h0.load b j 1=some [.int .u8 (x:Nat)])(c:x<256)(d:i<8):aT zM 276 [.pointer (some ⟨b,j,none⟩),.int .u8 ((2 ^i:Nat):Int)] h0 (.bool (x.testBit i)):=by
 have S:=Si g;cases f:x.testBit i with
 | true=>
   have a: ¬(((x&&& 2 ^i:Nat)):Int)=0:=fun e=>(by have:(x&&& 2 ^i)=0:=(by omega);rw [and_pow,f]at this;cases this);refine aa (n:=11) (rs:=[.tmp 4]) rfl Tryz.e276 rfl rfl rfl (lbt rfl) ?_;simp only [BZ,ab,l,b_and8 c (pow8 d),a,seval];exact S.gr
 | false=>have a:(((x&&& 2 ^i:Nat)):Int)=0:=(by have:=and_pow.2 f;omega);refine aa (n:=11) (rs:=[.tmp 4]) rfl Tryz.e276 rfl rfl rfl (lbt rfl) ?_;simp only [BZ,ab,l,b_and8 c (pow8 d),a,seval];exact S.gr
section
variable{h0:Hp}{bp bb rows wide long:Nat}{B:Nat->Nat}
theorem bGet_ok(j:OZ h0)(m:iB h0 bp bb rows wide long B)(t:r<rows)(u:i<wide)(b:rows<=100)(c:wide<=1000)(d:long=(wide+7)/8):
 aT zM 256 [ptrTo bp,.int .i64 (r:Nat),.int .i64 (i:Nat)] h0 (.bool (iD B long r i)):=by
 obtain⟨w,x,y,z,k,M,l⟩:=xI t u b c d;have A: ∀{h:Hp},Gr h0 h->aT zM 99 [ptrTo bp,.int .i64 (r:Nat),.int .i64 (i:Nat),.func (.func 276) #[] #[]] h (.bool (iD B long r i)):=by
  intro h g;have S:=Si g.ok;have e:=m.gr g;have C: ¬(r:Int)<0:=by omega
  have D: ¬(rows:Int)<=(r:Int):=by omega
  have E: ¬(i:Int)<0:=by omega
  have F: ¬(wide:Int)<=(i:Int):=by omega
  have G:=e.r.load1 (o:=2) rfl;have H:=e.r.load1 (o:=3) rfl;have I:=e.b.load1 (yY k);have J:=e.r.lt g.ok;refine aa (n:=46) (rs:=[.tmp 8]) rfl Tryz.e99 rfl rfl rfl (lbt rfl) ?_;simp only [BZ,C,seval];refine ag (pP S.ok e.bits) ?_;intro N f;replace S:=S.call f;simp only [BZ,D,E,seval];refine ag (mV S.ok (e.gr f).bits) ?_;intro O p;replace S:=S.call p;have a:=f.trans p;have K:=a.load G;have L:=a.load H;simp only [BZ,F,seval];refine ar (aA rfl) (q:=0) (ps:=[]) (by kernel_rfl) ?_;simp only [BZ,cls,K,L,w,x,y,z,k,oK (n:=8) (by decide),pX (n:=8) (by decide),b_shl8 l,seval];refine bC (get1_ok S.ok (a.load I) (e.lt _) l) ?_;intro P s;have v:=ao s (Xc J a.n);replace S:=S.call s;simp only [BZ,cls,ab,seval];exact⟨rfl,S.gr⟩
 have S:=Si j;refine aa (n:=11) (rs:=[.tmp 6]) rfl Tryz.e256 rfl rfl rfl (lbt rfl) ?_;simp only [BZ,seval];refine ag (A (Gr.refl j)) ?_;intro h g;simp only [BZ,ab,seval];exact g
end
theorem bOn_ok(e:OZ h0):Ret zM 217 [ptrTo d,.int .i64 (r:Nat)] h0 fun v h'=>Gr h0 h'/\ ∃b2 a,v=.func (.func 255) #[] #[ptrTo b2,ptrTo a]/\h0.n<=b2/\h0.n<=a/\h'.load b2 0 1=some [ptrTo d]/\h'.load a 0 1=some [.int .i64 (r:Nat)]:=by have S:=Si e;refine aa (n:=6) (rs:=[.tmp 4]) rfl Tryz.e217 rfl rfl rfl (lbt rfl) ?_;simp only [BZ,seval];refine ac (bK (by exact bF)) S ?_;clear S;intro h b2 S b;simp only [BZ,if_false,seval];refine ac (bK (by exact aJ)) S ?_;clear S;intro h a S c;simp only [BZ,ab,seval];exact⟨S.gr,b2,a,rfl,b,c,S.ld m1 rfl,S.ld m0 rfl⟩
section
variable{h0:Hp}{bp bb rows wide long:Nat}{B:Nat->Nat}
theorem iB.its(s:ItS h0 D h F)(a:OZ h0)(m:iB h0 bp bb rows wide long B)(b:D bp)(c:D bb):iB h bp bb rows wide long B:=
 ⟨Row.of_get (s.data bp (m.r.lt a) b) m.r,Row.of_get (s.data bb (m.b.lt a) c) m.b,m.lt⟩
theorem on1_it (b:OZ h0) (m:iB h0 bp bb rows wide long B)  (C:r<rows) (d:rows<=100) (e:wide<=1000) (f:long=(wide+7)/8)  (x:h0.load b2 0 1=some [ptrTo bp]) (D:h0.load k 0 1=some [.int .i64 (r:Nat)]):
 m9 zM 255 [] [ptrTo b2,ptrTo k] h0 (fun c=>c=b2\/c=k\/c=bp\/c=bb) (((zO wide).filter (iD B long r)).map fun(i:Nat)=>[.int .i64 (i:Nat)]):=by
 intro E J Z G Y h F s g;have l:=s.load b x (.inl rfl);refine enter (n:=21) (rs:=[]) rfl Tryz.e255 rfl rfl rfl (lbt rfl) ?_;simp only [BZ,l,seval];refine ag (mV s.ok (m.its s b (.inr (.inr (.inl rfl))) (.inr (.inr (.inr rfl)))).bits) ?_;intro N p;have y:=s.gr p;have z:=Y.gr _ _ _ _ g p;simp only [BZ];refine bA (fun(i:Nat) j h=>i<=wide/\ ∃F,ItS h0 (fun c=>c=b2\/c=k\/c=bp\/c=bb) h F/\J ((zO i).filter (iD B long r)).length h F/\j 0=.func (.yield E) #[] #[]/\j 1=ptrTo b2/\j 2=ptrTo k/\j 6=.int .i64 (wide:Nat)/\j 7=.int .i64 i) (fun i=>wide-i) ?_ 0 _ _ ?_
 . clear l s g y z F p h;intro i A j h ⟨hi,F,s,g,r0,r1,r2,r6,r7⟩;have w:aq .i64 ((i:Int)+1)=((i+1:Nat):Int):=(by rw [wrap64]<;>omega);by_cases hlt:i<wide
   . have l:=s.load b x (.inl rfl);have H:=s.load b D (.inr (.inl rfl));have I:=m.its s b (.inr (.inr (.inl rfl))) (.inr (.inr (.inr rfl)));simp only [BZ,r1,r2,r6,r7,aI,hlt,l,H,seval];refine ag (bGet_ok s.ok I C hlt d e f) ?_;intro O o;cases q:iD B long r i with
     | true=>
       have K:(((zO wide).filter (iD B long r)).map fun(i:Nat)=>[Value.int .i64 (i:Nat)])[((zO i).filter (iD B long r)).length]? =some [.int .i64 (i:Nat)]:=(by rw [Xj,uQ q _ hlt];rfl);have t:((zO (i+1)).filter (iD B long r)).length=((zO i).filter (iD B long r)).length+1:=(by rw [kJ,if_pos q];simp);simp only [BZ,r0,seval];refine c7 Y (s.gr o) (Y.gr _ _ _ _ g o) (i:=((zO i).filter (iD B long r)).length) K ?_ ?_ ?_
       . intro u L a M _ _;simp only [BZ,r7,w,seval];exact A (i+1) _ _ (by omega) ⟨by omega,L,M,by rw [t];exact a,by simp [aG,r0,r1,ah,r2,r6]⟩
       . intro u a _;simp only [BZ,seval];exact iA rfl ⟨rfl,.inr (.inl ⟨_,rfl,a⟩)⟩
       . intro v u a;exact absurd a (G v u)
     | false=>have t:(zO (i+1)).filter (iD B long r)=(zO i).filter (iD B long r):=(by rw [kJ,if_neg (by rw [q];decide)];simp);simp only [BZ,r7,w,seval];exact A (i+1) _ _ (by omega) ⟨by omega,F,s.gr o,by rw [t];exact Y.gr _ _ _ _ g o,by simp [aG,r0,r1,ah,r2,r6]⟩
   . simp only [BZ,r6,r7,aI,hlt,seval];have:i=wide:=(by omega);subst this;exact cg (bV ⟨rfl,_,rfl,rfl,.inl ⟨_,F,rfl,by simpa using g⟩⟩)
 . exact⟨Xh _,F,y,z,by simp [aG,cZ,ah]⟩
theorem bRow_ok(G:OZ h0)(m:iB h0 bp bb rows wide long B)(hr:r<rows)(s:rows<=100)(d:wide<=1000)(t:long=(wide+7)/8):
 Ret zM 148 [ptrTo bp,.int .i64 (r:Nat)] h0 fun v h'=>Gr h0 h'/\aD h' 1 bO v ((zO wide).filter (iD B long r))/\ ∀c,au v c->h0.n<=c:=by
 have S:=Si G;refine aa (n:=15) (rs:=[.cell 4 41]) rfl Tryz.e148 rfl rfl rfl (lbt rfl) ?_;simp only [BZ];refine ac aB S ?_;clear S;intro h p S Q;simp only [BZ,seval];have k4:=(S.row (b:=p) m0).lt S.ok;refine step_ret (bOn_ok S.ok) ?_;rintro v R ⟨g,b2,b3,rfl,n2,n3,y2,y3⟩;have H:=m.gr (S.gr.trans g);replace S:=S.call g;have U:=on1_it S.ok H hr s d t y2 y3;have zp:=H.r.lt S.ok;have zb:=H.b.lt S.ok;have wp:=m.r.lt G;have wb:=m.b.lt G;generalize I:(zO wide).filter (iD B long r)=f at U;have af:f.length<=1000:=by rw [<-I];exact Xo sK d
 simp only [BZ];replace S:=S.nilG (k:=1);refine ie S (g:=255) (a:=#[]) (b:=#[ptrTo b2,ptrTo b3]) (by simp [bI,aG,ah]) rfl rfl ?_;intro J E u z K M V;obtain⟨X,W,z⟩: ∃X:fZ,X=_/\St NoM h0 J [(u,.loop X),(E,.dfr),(p,.row [.slice none 0 0] 1)] [(.slice none 0 0,1,[])]:=⟨_,rfl,z⟩;have hJ:Yld zM u (fun k h' F=> ∃(l:Value),St NoM h0 h' [(u,.loop X),(E,.dfr),(p,.row [l] 1)] [(l,1,gX (f.take k))]/\k<=f.length/\F=keys [(u,.loop X),(E,.dfr),(p,.row [l] 1)] [(l,1,gX (f.take k))]/\(∀c∈F,R.n<=c\/c=p)) (fun _ _=>False) (f.map fun(i:Nat)=>[.int .i64 (i:Nat)]):=by
  refine⟨?_,?_,fun _ _ h=>h.elim,?_⟩
  . rintro i h F ⟨l,S,_,rfl,_⟩;exact⟨S.ok,fun b q=>S.key_lt q⟩
  . rintro i h F h' ⟨l,S,a,rfl,c⟩ gg;exact⟨l,S.call gg,a,rfl,c⟩
  . rintro i x hR F N ⟨l,S,a,rfl,Y⟩;have A:i<f.length:=(by have:=(List.getElem?_eq_some_iff.1 N).1;simpa using this);rw [Xj,Xb A]at N;cases N;have Z:gX (f.take (i+1))=gX (f.take i)++[.int .i64 (f[i]:Nat)]:=(by rw [Xf A];unfold gX;rw [XM];rfl);have tl:(gX (f.take i)).length<=i:=(by rw [pb,List.length_take];omega);generalize f[i]=x at Z;have ai:Fl l:=(S.gown _ m0).1.fl;subst W;refine ii (S.get m0) (by rw [Tryz.e148];rfl) rfl ?_;have S0:=S;have kR:=S.fr.n;have lim:R.n<=hR.n:=(by have h1:=Y u (by simp [keys]);have J:=S.key_lt (b:=u) (by simp [keys]);omega);replace S:=S.base;simp only [BZ,seval];refine gu S (i:=0) rfl rfl rfl rfl rfl ?_;clear S;intro h S;simp only [LC]at S;simp only [BZ,S.ld (b:=p) (o:=0) m2 rfl,seval];refine ac (cd (by exact Tryz.t41.1) (by exact Tryz.e3E) (by decide) (by rfl)) S ?_;clear S;intro h bs S ad;simp only [LC,bJ,bZ,ae,XV,XC,XX,XY,seval]at S;simp only [BZ,seval];have C:aP h 1 (.slice (some ⟨bs,0,none⟩) 1 1)=some (1,[.int .i64 (x:Nat)]):=(by simp only [aP];rw [S.lds (b:=bs) (o:=0) (n:=1*1) m0 (lbt rfl)];rfl);replace S:=S.drop1;refine dV (S.grow (j:=0) (m:=1) (new:=[.int .i64 (x:Nat)]) rfl Tryz.t41.1 Tryz.e3E (by decide) Tryz.t41.2.2.2.2.2 C rfl (by decide) rfl (by rw [pb];simp;omega)) ?_;clear S C;rintro h D S;simp only [LC]at S;have O:Fl D:=(S.gown _ m0).1.fl;simp only [BZ,seval];refine aC (aE S (i:=2) rfl Tryz.t41.2.2.1 O (Xd (lbt rfl)) ono) ?_;clear S;rintro h ⟨S,_⟩;simp only [LC]at S;simp only [BZ];refine dP S (i:=0) rfl ?_;clear S;intro h S;simp only [LC]at S;rw [<-Z]at S;refine .inl ⟨rfl,_,⟨D,S0.rebase S,by omega,rfl,fun c w=>?_⟩,S.fr,S.key_new⟩;rcases S.key_new c w with h|h
    . exact Y c h
    . exact .inl (by omega)
 refine cH (U u _ _ (fun _ _ h=>h) hJ J _ ?_ ⟨_,z,Xh _,rfl,fun c w=>?_⟩) fun o rc h' y=>i6 y ?_
 . refine⟨z.ok,V.n,fun b q _=>V.get b q,fun b q h=>?_,fun b q=>z.key_lt q⟩;simp only [keys,Xv,Xz,XT,eJ,Xs,Xx,Xk,Xg,or_false]at q;rcases q with rfl|rfl|rfl
   . omega
   . omega
   . rcases h.2 with e|e|e|e<;>omega
 . simp only [keys,Xv,Xz,XT,eJ,Xs,Xx,Xk,Xg,or_false]at w;rcases w with rfl|rfl|rfl
   . exact .inl M
   . exact .inl K
   . exact .inr rfl
 . rintro F ⟨l,T,b,rfl,_⟩;rw [Xp,Xq]at T;subst W;refine⟨_,T.get m0,Xy,?_⟩;replace T:=T.dead;have S:=T;show Run _ _ _ _ _ _ _ _;simp only [BZ,S.ld (b:=p) (o:=0) m1 rfl,seval];have O:Fl l:=(T.gown _ m0).1.fl;clear S;refine aC (aE T (i:=1) rfl Tryz.t41.2.2.1 O (Xd (lbt rfl)) ono) ?_;clear T;rintro h3 ⟨T,_⟩;simp only [XH,List.set_cons_succ]at T;simp only [BZ];refine cS (gG [E] _ (L:=[(p,_)]) T.base fun h4 P=>?_);refine⟨rfl,(aZ (by decide) (by simp only [aF,ah,seval];exact iY Tryz.t41.2.1 (P.ld (b:=p) (o:=0) m0 rfl))).2 (bQ.2 ⟨(T.rebase P).gr,(P.gown _ m0).1.sl (vr _).symm dw (by decide),fun c w=>?_⟩)⟩;rcases(T.gblk m0 w).1 with h|h
   . exact h
   . exact h.elim
end
theorem allowF_ok(M:OZ h0){H l f g:Nat}{B:Nat->Nat}(m:iB h0 H N l f g B)(O:k<l)(p:l<=100)(q:f<=1000)(s:g=(f+7)/8):
 Ret zM 56 [ptrTo H,.int .i64 (k:Nat)] h0 fun r h'=>Gr h0 h'/\ ∃o,r=.slice (some ⟨o,0,none⟩) f f/\Row h' o (eu f (iD B g k)) 1/\h0.n<=o:=by
 have S:=Si M;have P: ¬((k:Int)<0):=by omega
 have Q: ¬((l:Int)<=(k:Int)):=by omega
 refine aa (n:=32) (rs:=[.tmp 4]) rfl Tryz.e56 rfl rfl rfl (lbt rfl) ?_;simp only [BZ,P,seval];refine ag (pP S.ok m.bits) ?_;intro R T;replace S:=S.call T;simp only [BZ,Q,seval];refine ag (mV S.ok (m.gr S.gr).bits) ?_;intro h2 U;replace S:=S.call U;simp only [BZ,seval];refine ac (mr (by exact Tryz.t100.1) (by exact Tryz.e4E) (by omega) (by omega)) S ?_;clear S;intro h o S y;have V:bJ [Value.bool false] f=eu f (fun a=>decide (a∈((zO f).filter (iD B g k)).take 0)):=by rw [oV];unfold eu;simp [List.map_const']
 rw [Xl,V]at S;simp only [BZ,Xl,seval];refine step_ret (bRow_ok S.ok (m.gr S.gr) O p q s) ?_;rintro v W ⟨X,D,Y⟩;have k3:=(S.row (b:=o) m0).lt S.ok;replace S:=S.call X;generalize E:(zO f).filter (iD B g k)=L at D S;have F: ∀a∈L,a<f:=fun a I=>by rw [<-E]at I;exact List.mem_range.1 (List.mem_filter.1 I).1
 have Z:L.length<=f:=by rw [<-E];exact sK
 have ad:=S.ok;have nA:=S.gr;simp only [BZ,D.lenq,seval];refine bA (fun(i:Nat) z h=>i<=L.length/\St NoM h0 h [(o,.row (eu f (fun a=>decide (a∈L.take i))) 1)] []/\(∀c,au v c->h.get c=W.get c)/\z 5=.slice (some ⟨o,0,none⟩) f f/\z 21=v/\z 22=.int .i64 (L.length:Nat)/\z 23=.int .i64 i) (fun i=>L.length-i) ?_ 0 _ _ ?_
 . clear S;intro i ih z h ⟨hi,S,hv,r5,r21,r22,r23⟩;have w:aq .i64 ((i:Int)+1)=((i+1:Nat):Int):=(by rw [wrap64]<;>omega);by_cases hlt:i<L.length
   . have J:=sl_get D hv;obtain⟨d,oo,x0,A⟩:=J.ix (kd:=.i64) dw hlt;have t:=F _ (Xe hlt);have G:eu f (fun u=>decide (u∈L.take (i+1)))=(eu f (fun u=>decide (u∈L.take i))).set L[i] (.bool true):=(by rw [BH];refine mO fun j _=>?_;rw [Xf hlt];simp only [Xw,XG];by_cases e1:j=L[i]<;>by_cases e2:j∈L.take i<;>simp [e1,e2]);rw [show(L.take (i+1))=L.take (i+1)from rfl]at G;generalize L[i]=x at t A G;replace A:h.load d oo 1=some [.int .i64 (x:Nat)]:=A;simp only [BZ,r5,r21,r22,r23,aI,hlt,x0,A,seval];have K:=S;replace S:=S.base;simp only [BZ,t,seval];refine aC (aE S (i:=0) rfl Tryz.t4.2.2.1 qU (by rw [uc];exact t) ono) ?_;clear S;rintro h' ⟨S,mo⟩;simp only [LC]at S;simp only [BZ,r23,w,seval];refine ih (i+1) _ _ (by omega) ⟨by omega,?_,?_,by simp [aG,r5,r21,r22]⟩
     . rw [G];exact K.rebase S
     . intro c C;have R:=Y c C;exact(mo.get c (J.blt K.ok C) (fun e=>by have e:c=o:=e;omega)).trans (hv c C)
   . have:i=L.length:=(by omega);subst this;simp only [BZ,ab,r5,r22,r23,aI,hlt,seval];refine⟨S.gr,o,rfl,?_,y⟩;have e:eu f (iD B g k)=eu f (fun a=>decide (a∈L.take L.length)):=mO fun j hj=>(by rw [Xq,<-E];simp [XD,hj]);rw [e];exact S.row m0
 . exact⟨Xh _,S,fun c C=>rfl,by simp [aG]⟩
theorem DH(d:a<γ.arcs.length):a∈dR γ c k↔insB γ c k a=true\/ ∃b∈(zO γ.nodes).filter (borB γ c k),j9 γ b a=true:=by unfold dR qh;rw [Xw,XD,List.mem_flatMap];simp only [XD,List.mem_range,d,true_and]
def sfC(b c pn d:Value)(way f t a:Int):List Value:=[b,c,pn,d,.int .i64 way,.int .i64 f,.int .i64 t,.int .i64 a]
section
variable{hq:Hp}{bq bp nb nd mk:Nat}{γ:Gra}{pc pf pt:Value}{way f t a:Int}{fitB:Bool}
theorem sfNet_ok(R:Row hq bq (sfC pc pf (ptrTo bp) pt way f t a) 1)(b:hq.load b1 0 1=some [ptrTo bq]): ∀h,Gr hq h->aT zM 142 [ptrTo b1] h (.bool true):=by intro h g;have S:=Si g.ok;have c:=(R.gr g).load1 (o:=2) rfl;refine aa (n:=7) (rs:=[.tmp 1]) rfl Tryz.e142 rfl rfl rfl (lbt rfl) ?_;simp only [BZ,ab,g.load b,c,seval];exact S.gr
theorem sfWay_ok(R:Row hq bq (sfC pc pf (ptrTo bp) pt way f t a) 1)(c:hq.load b1 0 1=some [ptrTo bq]): ∀h,Gr hq h->aT zM 143 [ptrTo b1] h (.bool (decide (way=4\/way=5))):=by
 intro h g;have S:=Si g.ok;have d:=(R.gr g).load1 (o:=4) rfl;refine aa (n:=16) (rs:=[.tmp 1]) rfl Tryz.e143 rfl rfl rfl (lbt rfl) ?_;by_cases b:way=4
 . simp only [BZ,ab,g.load c,d,b,seval];exact⟨by simp [b],S.gr⟩
 . by_cases e:way=5
   . subst e;simp only [BZ,ab,g.load c,d,(by decide: ¬(5:Int)=4),seval];exact⟨by simp,S.gr⟩
   . simp only [BZ,ab,g.load c,d,b,e,seval];exact⟨by simp [b,e],S.gr⟩
theorem yM(c:aQ hq nb (ptrTo bp) γ)(R:Row hq bq (sfC pc pf (ptrTo bp) pt way f t a) 1){v:Int}: ∀h,Gr hq h->aT zM 145 [ptrTo bq,.int .i64 v] h (.bool (decide (0<=v/\v<γ.nodes))):=by
 intro h g;have S:=Si g.ok;have d:=(R.gr g).load1 (o:=2) rfl;refine aa (n:=16) (rs:=[.tmp 4]) rfl Tryz.e145 rfl rfl rfl (lbt rfl) ?_;by_cases b:0<=v
 . simp only [BZ,d,b,seval];refine ag (bM S.ok ((c.gr g).gr S.gr)) ?_;intro h g;replace S:=S.call g;clear g;simp only [BZ,ab,seval];exact S.gr
 . simp only [BZ,ab,b,seval];exact⟨by simp [b],S.gr⟩
theorem sfFrom_ok(b:aQ hq nb (ptrTo bp) γ)(R:Row hq bq (sfC pc pf (ptrTo bp) pt way f t a) 1)(c:hq.load b1 0 1=some [ptrTo bq]): ∀h,Gr hq h->aT zM 144 [ptrTo b1] h (.bool (decide (0<=f/\f<γ.nodes))):=by intro h g;have S:=Si g.ok;have d:=(R.gr g).load1 (o:=5) rfl;refine aa (n:=9) (rs:=[.tmp 1]) rfl Tryz.e144 rfl rfl rfl (lbt rfl) ?_;simp only [BZ];refine ar (aA rfl) (q:=0) (ps:=[]) (by kernel_rfl) ?_;simp only [BZ,cls,g.load c,d,seval];refine bC (yM b R _ (g.trans S.gr)) ?_;intro i e;replace S:=S.call e;simp only [BZ,cls,ab,seval];exact S.gr
theorem sfTo_ok(b:aQ hq nb (ptrTo bp) γ)(R:Row hq bq (sfC pc pf (ptrTo bp) pt way f t a) 1)(c:hq.load b1 0 1=some [ptrTo bq]): ∀h,Gr hq h->aT zM 146 [ptrTo b1] h (.bool (decide (0<=t/\t<γ.nodes))):=by intro h g;have S:=Si g.ok;have d:=(R.gr g).load1 (o:=6) rfl;refine aa (n:=9) (rs:=[.tmp 1]) rfl Tryz.e146 rfl rfl rfl (lbt rfl) ?_;simp only [BZ];refine ar (aA rfl) (q:=0) (ps:=[]) (by kernel_rfl) ?_;simp only [BZ,cls,g.load c,d,seval];refine bC (yM b R _ (g.trans S.gr)) ?_;intro i e;replace S:=S.call e;simp only [BZ,cls,ab,seval];exact S.gr
theorem Dl(u:aQ hq nb (ptrTo bp) γ)(T:TabO zM hq pt nd mk 41 40)(R:Row hq bq (sfC pc pf (ptrTo bp) pt way f t a) 1): ∀h,Gr hq h->aT zM 216 [ptrTo bq] h (.bool (decide (0<mk/\nd=γ.nodes))):=by
 intro h g;have w:=T.fl;have S:=Si g.ok;have z:=(R.gr g).lt g.ok;have e:=(R.gr g).load1 (o:=3) rfl;have v:=(R.gr g).load1 (o:=2) rfl;refine aa (n:=23) (rs:=[.tmp 2]) rfl Tryz.e216 rfl rfl rfl (lbt rfl) ?_;simp only [BZ];refine ar (aA rfl) (q:=0) (ps:=[(12,16)]) (by kernel_rfl) ?_;simp only [BZ,cls,e,seval];refine cu (T.marks _ (g.trans S.gr)) ?_;rintro r x ⟨b,l,i,y⟩;replace S:=S.call b;have j:=ao b z;by_cases k:0<mk
 . have d:(0:Int)<(l.length:Int):=(by omega);simp only [BZ,cls,i.lenq,d,b.load e,seval];refine bC (T.nodes _ (g.trans S.gr)) ?_;intro A c;have m:=ao c (Xc z b.n);replace S:=S.call c;simp only [BZ,cls,c.load (b.load v),seval];refine bC (bM S.ok ((u.gr g).gr S.gr)) ?_;intro B p;have s:=ao p (Xc z (b.trans c).n);replace S:=S.call p;simp only [BZ,cls,ab,seval];refine⟨by simp only [aO,aU,aK,aX,aN,ne_eq,not_false_eq_true,bj,bG,aW,aS,bI,ce,aF,Xi,ah,cZ,av j,aw j,av m,aw m,av s,aw s,seval],?_⟩;exact⟨by simp [k,Int.ofNat_inj],S.gr⟩
 . have d: ¬(0:Int)<(l.length:Int):=(by omega);simp only [BZ,cls,ab,i.lenq,d,seval];exact⟨by simp only [aO,aU,aK,aX,aN,ne_eq,not_false_eq_true,kD,rJ,Xi,seval],by simp [k],S.gr⟩
def kY(fitB:Bool)(way:Int)(mk nd N:Nat):Bool:=fitB&&(decide (way≠5)||decide (0<mk/\nd=N))
theorem sfFits_ok(i:aQ hq nb (ptrTo bp) γ)(T:TabO zM hq pt nd mk 41 40)(R:Row hq bq (sfC pc pf (ptrTo bp) pt way f t a) 1)(m:Fl pc)(p:Fl pf)(F: ∀h,Gr hq h->aT zM 42 [ptrTo bp,pc,pf] h (.bool fitB)):
 ∀h,Gr hq h->aT zM 147 [ptrTo bq] h (.bool (kY fitB way mk nd γ.nodes)):=by
 intro h g;have S:=Si g.ok;have z:=(R.gr g).lt g.ok;have j:=(R.gr g).load1 (o:=0) rfl;have k:=(R.gr g).load1 (o:=1) rfl;have l:=(R.gr g).load1 (o:=2) rfl;have d:=(R.gr g).load1 (o:=4) rfl;refine aa (n:=30) (rs:=[.tmp 2]) rfl Tryz.e147 rfl rfl rfl (lbt rfl) ?_;simp only [BZ];refine ar (aA rfl) (q:=0) (ps:=[]) (by kernel_rfl) ?_;simp only [BZ,cls,j,k,l,seval];refine bC (F _ (g.trans S.gr)) ?_;intro r b;have s:=ao b z;replace S:=S.call b;cases fitB with
 | false=>simp only [BZ,cls,ab,seval];exact⟨by simp [kY],S.gr⟩| true=>
   by_cases c:way=5
   . simp only [BZ,cls,b.load d,c,seval];refine bC (Dl i T R _ (g.trans S.gr)) ?_;intro u e;have v:=ao e (Xc z b.n);replace S:=S.call e;simp only [BZ,cls,ab,seval];exact⟨by simp [kY],S.gr⟩
   . simp only [BZ,cls,ab,b.load d,c,seval];exact⟨by simp [kY,c],S.gr⟩
end
structure Rs where
 g:FuncId
 pre:Array Value
 post:Array Value
 ok:Bool
 code:Int
def argS(r:Rs):List Value:=[.int .i64 r.code,.func (.func r.g) r.pre r.post]
def q8:List Rs->Int
 | []=>0|r::a=>if r.ok=true then q8 a else r.code
theorem firstS_at{rs:List Rs}{r:Rs}(h:rs[i]? =some r)(a: ∀q∈rs.take i,q.ok=true)(b:r.ok≠true):q8 rs=r.code:=by
 induction rs generalizing i with
 |nil=>cases h
 | cons q rs c=>
   cases i with
   |zero=>cases h;unfold q8;rw [if_neg b]
   | succ i=>
     rw [q8,if_pos (a q (by simp))];exact c (by simpa using h) (fun x d=>a x (by simp [d]))
theorem EF{rs:List Rs}(h: ∀q∈rs,q.ok=true):q8 rs=0:=by
 induction rs with
 |nil=>rfl|cons q rs a=>rw [q8,if_pos (h q (by simp))];exact a (fun x b=>h x (by simp [b]))
def sfRs(b1 bq:Nat)(okW okF okT okX:Bool):List Rs:=[⟨142,#[],#[ptrTo b1],true,1⟩,⟨143,#[],#[ptrTo b1],okW,16⟩,⟨144,#[],#[ptrTo b1],okF,17⟩,⟨146,#[],#[ptrTo b1],okT,18⟩,⟨147,#[ptrTo bq],#[],okX,19⟩]
theorem looks_ok(b:OZ h0):Ret zM 53 [ptrTo bq] h0 fun v h'=>Gr h0 h'/\ ∃b1,v=.func (.func 141) #[] #[ptrTo b1]/\h0.n<=b1/\h'.load b1 0 1=some [ptrTo bq]:=by have S:=Si b;refine aa (n:=4) (rs:=[.tmp 2]) rfl Tryz.e53 rfl rfl rfl (lbt rfl) ?_;simp only [BZ,seval];refine ac (bK (by exact bF)) S ?_;clear S;intro h b1 S a;simp only [BZ,ab,seval];exact⟨S.gr,b1,rfl,a,S.ld m0 rfl⟩
theorem looks1_it(f:OZ h0)(g:h0.load b1 0 1=some [ptrTo bq]):m9 zM 141 [] [ptrTo b1] h0 (fun c=>c=b1) ((sfRs b1 bq okW okF okT okX).map argS):=by
 intro l J Z e Y h F s b;have S:=Si s.ok;refine enter (n:=27) (rs:=[]) rfl Tryz.e141 rfl rfl rfl (lbt rfl) ?_;simp only [BZ,seval];refine c7 Y s b (i:=0) rfl ?_ ?_ (fun v d a=>absurd a (e v d));rotate_left
 . intro d a _;simp only [BZ,seval];exact cg (bV ⟨rfl,_,rfl,rfl,.inr (.inl ⟨_,rfl,a⟩)⟩)
 clear b s;intro m o b s _ _;simp only [BZ,seval];refine c7 Y s b (i:=1) rfl ?_ ?_ (fun v d a=>absurd a (e v d));rotate_left
 . intro d a _;simp only [BZ,seval];exact cg (bV ⟨rfl,_,rfl,rfl,.inr (.inl ⟨_,rfl,a⟩)⟩)
 clear b s;intro p q b s _ _;simp only [BZ,seval];refine c7 Y s b (i:=2) rfl ?_ ?_ (fun v d a=>absurd a (e v d));rotate_left
 . intro d a _;simp only [BZ,seval];exact cg (bV ⟨rfl,_,rfl,rfl,.inr (.inl ⟨_,rfl,a⟩)⟩)
 clear b s;intro d r b s _ _;simp only [BZ,seval];refine c7 Y s b (i:=3) rfl ?_ ?_ (fun v d a=>absurd a (e v d));rotate_left
 . intro d a _;simp only [BZ,seval];exact cg (bV ⟨rfl,_,rfl,rfl,.inr (.inl ⟨_,rfl,a⟩)⟩)
 clear b s;intro t u b s _ _;have j:=s.load f g rfl;simp only [BZ,j,seval];refine c7 Y s b (i:=4) rfl ?_ ?_ (fun v d a=>absurd a (e v d));rotate_left
 . intro d a _;simp only [BZ,seval];exact cg (bV ⟨rfl,_,rfl,rfl,.inr (.inl ⟨_,rfl,a⟩)⟩)
 clear b s;intro w k b s _ _;simp only [BZ,seval];exact cg (bV ⟨rfl,_,rfl,rfl,.inl ⟨_,k,rfl,b⟩⟩)
theorem exTo(b:OZ h0)(a:Good γ){c:Nat}(d:aQ h0 c pn γ)(e:s<γ.nodes)(v:Nat):IsD (seen γ.arcs Arc.t Arc.s) s v (dOf (seen γ.arcs Arc.t Arc.s) s v):=by obtain⟨_,_,_,_,_,_,_,D,_,_,_,_,_,_,_,f,_⟩:=tI b a d e;exact(yr (f v)).2
theorem exFrom(b:OZ h0)(a:Good γ){c:Nat}(d:aQ h0 c pn γ)(e:s<γ.nodes)(v:Nat):IsD (seen γ.arcs Arc.s Arc.t) s v (dOf (seen γ.arcs Arc.s Arc.t) s v):=by obtain⟨_,_,_,_,_,_,_,D,_,_,_,_,_,_,_,f,_⟩:=uR b a d e;exact(yr (f v)).2
theorem tV(B:List Arc)(N s:Nat):(qv B N s).length=N:=by simp [qv]
theorem rowD_at{B:List Arc}(a:v<N):(qv B N s).getD v 0=(dOf B s v:Nat):=by simp [qv,Xa,a]
theorem qR(b:i<l.length)(a:v<γ.nodes):iK γ.nodes l.length (toR γ l) i v=(dOf (seen γ.arcs Arc.t Arc.s) (l.getD i 0).toNat v:Nat):=by unfold iK;rw [if_pos ⟨by omega,by omega,by omega,by omega⟩,Xl,Xl];exact rowD_at a
theorem qT(b:i<l.length)(a:v<γ.nodes):iK γ.nodes l.length (frR γ l) i v=(dOf (seen γ.arcs Arc.s Arc.t) (l.getD i 0).toNat v:Nat):=by unfold iK;rw [if_pos ⟨by omega,by omega,by omega,by omega⟩,Xl,Xl];exact rowD_at a
theorem mE(c:a<=72057594037927936)(d:b<=72057594037927936):pu (a:Int) (b:Int)=if b<72057594037927936 then(if a<72057594037927936 then max 0 ((a:Int)-b)else 72057594037927936)else 0:=by
 unfold pu wy
 repeat' split
 all_goals omega
theorem Ag(A:List Arc): ∀a∈seen A Arc.s Arc.t,∃b∈seen A Arc.t Arc.s,b.s=a.t/\b.t=a.s/\b.w=a.w:=by intro a d;obtain⟨i,c,e⟩:=Cm d;have f:=(vV (fs:=Arc.s) (ft:=Arc.t) c).1;obtain⟨g,h⟩:=vV (fs:=Arc.t) (ft:=Arc.s) c;refine⟨_,h,?_⟩;rw [g,<-e,f];exact⟨rfl,rfl,rfl⟩
theorem iI(γ:Gra):seen γ.arcs Arc.s Arc.t=γ.arcs:=by unfold seen;exact(XR (fun a _=>rfl)).trans (List.map_id _)
inductive iL(A:List Arc)(s:Nat):List Nat->Nat->Nat->Prop where
 |nil:iL A s [] s 0
 |snoc {l:List Nat} {w a:Nat}:iL A s l (A.getD a default).s w->a<A.length->iL A s (l++[a]) (A.getD a default).t (w+(A.getD a default).w)
def mT(A:List Arc)(s:Nat)(l:List Nat)(i:Nat):Nat:=if i=0 then s else(A.getD (l.getD (i-1) 0) default).t
def sumA(A:List Arc)(l:List Nat)(k:Nat):Nat:=((l.take k).map fun a=>(A.getD a default).w).sum
theorem wG{l:List Nat}(h:i<l.length):(l++[a]).getD i 0=l.getD i 0:=by rw [Xa,Xa,Xr h]
theorem wC{l:List Nat}:(l++[a]).getD l.length 0=a:=by simp [Xa]
theorem CH{l:List Nat}(h:i<=l.length):mT A s (l++[a]) i=mT A s l i:=by
 unfold mT
 split
 . rfl
 . rw [wG (by omega)]
theorem iL.at{A:List Arc}{s t w:Nat}{l:List Nat}(h:iL A s l t w):(∀i,i<l.length->l.getD i 0<A.length/\(A.getD (l.getD i 0) default).s=mT A s l i)/\mT A s l l.length=t/\sumA A l l.length=w:=by
 induction h with
 |nil=>exact⟨fun i c=>absurd c (Nat.not_lt_zero _),rfl,rfl⟩
 | @snoc l w a _ d e=>
   obtain⟨f,g,b⟩:=e;have j:(l++[a]).length=l.length+1:=(by simp);refine⟨fun i c=>?_,?_,?_⟩
   . rcases Nat.lt_or_ge i l.length with h|h
     . rw [wG h,CH (Nat.le_of_lt h)];exact f i h
     . have:i=l.length:=(by omega);subst this;rw [wC,CH (Xt _)];exact⟨d,g.symm⟩
   . rw [j];unfold mT;rw [if_neg (by omega),XI,wC]
   . unfold sumA at b⊢;rw [Xq]at b⊢;rw [XM,List.sum_append,b];rfl
theorem sumA_succ{l:List Nat}(h:k<l.length):sumA A l (k+1)=sumA A l k+(A.getD (l.getD k 0) default).w:=by
 have e:l.getD k 0=l[k]:=by rw [Xa,Xb h];rfl
 unfold sumA;rw [e,Xf h,XM,List.sum_append];simp
section
variable{A:List Arc}{N s:Nat}{al:Nat->Bool}{pi:Nat->Int}{σ:SS}
theorem Sv.pathA(h:Sv A N s al pi σ): ∀(n:Nat) {v:Nat},(σ.P v).length<=n->(v∈σ.O\/σ.K v≠none)->iL A s (σ.P v).reverse v (σ.L v):=by
 intro n
 induction n with
 | zero=>
   intro v b c;rcases h.path v c with⟨rfl,d,e⟩|⟨a,_,_,_,_,f,_⟩
   . rw [d,e];exact .nil
   . rw [f]at b;simp at b
 | succ n g=>
   intro v b c;rcases h.path v c with⟨rfl,d,e⟩|⟨a,i,_,j,k,f,l⟩
   . rw [d,e];exact .nil
   . rw [f]at b⊢;rw [l,List.reverse_cons,<-j];exact .snoc (g (by rw [List.length_cons]at b;omega) (.inl k)) i
theorem ul{r:Fd}(c: ∀a∈A,a.t<N/\a.w<=bR)(d:Ends A al pi to σ r):Sv A N s al pi σ->r.dist<FAR->iL A s r.arcs to r.dist:=by
 induction d with
 |none g=>intro _ h;exact absurd h (Nat.lt_irrefl _)| @hit σ k b=>intro h _;exact h.pathA _ (Xt _) (.inr (by rw [b.1];nofun))| @step σ v k r b e _ f=>intro h;exact f (h.next c b.1).1
end
theorem ends_len{r:Fd}(f: ∀a∈A,a.t<N/\a.w<=bR)(l:N<=12)(m:A.length<=100)(g:Ends A al pi to σ r):Sv A N s al pi σ->σ.ev.length<=σ.O.length*200->r.arcs.length<=12/\r.ev.length<=3000:=by
 induction g with
 | @none σ n=>intro h b;have:=h.len;exact⟨Xh _,by show σ.ev.length<=3000;omega⟩| @hit σ k c=>intro h b;have d:=h.len;have e:=(h.bd to).2;refine⟨by show(σ.P to).reverse.length<=12;rw [List.length_reverse];omega,?_⟩;show(σ.ev++[_]).length<=3000;simp;omega| @step σ v k r c i _ j=>
   intro h b;obtain⟨d,e⟩:=h.next f c.1
   refine j d ?_;have o:=CC A al pi v (dW σ v);have p:(dW σ v).ev.length=σ.ev.length+1:=(by show(σ.ev++[_]).length=_;simp);rw [e.O];show _<=(σ.O++[v]).length*200;simp;omega
theorem found_len(b:Good γ)(f:s<γ.nodes){c:Fd}(d:(s=to/\c=⟨0,[],[]⟩)\/(s≠to/\Ends γ.arcs al pi to (gb pi s) c)):c.arcs.length<=12/\c.ev.length<=3000:=by
 rcases d with⟨_,rfl⟩|⟨_,d⟩
 . exact⟨Xh _,Xh _⟩
 . refine ends_len (fun a e=>⟨(b.arcs a e).2.1,(b.arcs a e).2.2⟩) b.n2 b.many d (pG f) ?_;have g:(gb pi s).ev.length=0:=(by unfold gb;rw [xk];rfl);omega
theorem isD_back(h:IsD (seen A Arc.t Arc.s) b v x):IsD A v b x:=by
 have j: ∀a∈A,∃e∈seen A Arc.t Arc.s,e.s=a.t/\e.t=a.s/\e.w=a.w:=fun a d=>⟨⟨a.t,a.s,a.w⟩,List.mem_map_of_mem d,rfl,rfl,rfl⟩;have k: ∀a∈seen A Arc.t Arc.s,∃e∈A,e.s=a.t/\e.t=a.s/\e.w=a.w:=fun a d=>by obtain⟨e,m,rfl⟩:=List.mem_map.1 d;grind
 have c: ∀w,Wk A v b w↔Wk (seen A Arc.t Arc.s) b v w:=fun w=>⟨fun h=>by simpa using Wk.back j h .nil,fun h=>by simpa using Wk.back k h .nil⟩;rcases h with⟨f,g,l⟩|⟨f,g⟩
 . exact .inl ⟨f,(c x).2 g,fun w i=>l w ((c w).1 i)⟩
 . exact .inr ⟨f,fun w i=>g w ((c w).1 i)⟩
def onF(A:List Arc)(d:Nat->Nat->Nat)(c:Nat->Nat)(k:Nat)(a:Arc):Prop:=
 (c a.s=k/\c a.t=k)\/ ∃b,(c b=k/\ ∃e∈A,e.t=b/\c e.s≠k)/\d a.s b<FAR/\d a.t b<FAR/\d a.s b=a.w+d a.t b
inductive WkC(A:List Arc)(t:Nat):Nat->Nat->Prop where
 |nil:WkC A t t 0
 |cons {y:Nat} {a:Arc}:a∈A->WkC A t a.t y->WkC A t a.s (a.w+y)
section
variable{A On:List Arc}{N:Nat}{d:Nat->Nat->Nat}{c:Nat->Nat}{k:Nat}
theorem Wk.toC(h:Wk A s v x):WkC A t v y->WkC A t s (x+y):=by
 induction h generalizing y with
 |nil=>grind| @snoc w a b _ e=>intro h;have:=e (.cons b h);grind
theorem WkC.toW(h:WkC A t v y):Wk A v t y:=by
 induction h with
 |nil=>exact .nil| @cons y a b _ e=>have f:Wk A a.s a.t (0+a.w):=.snoc b .nil;have:=f.trans e;grind
theorem IsD.le_wk(h:IsD A s v x)(k:Wk A s v y):x<=y/\x<FAR:=⟨(h.wk k).2.1,(h.wk k).1⟩
variable(hA: ∀a∈A,a.s<N/\a.t<N)(hd: ∀v b,v<N->b<N->IsD A v b (d v b))(hOn: ∀a,a∈On↔a∈A/\onF A d c k a)
include hA hd hOn
theorem on_tight(m:s<N)(f:b<N)(g:c b=k/\ ∃e∈A,e.t=b/\c e.s≠k)(hf:d s b<FAR)(h:Wk A s v x):v<N->x+d v b=d s b->Wk On s v x:=by
 induction h with
 |nil=>intro _ _;exact .nil| @snoc x a i n o=>
   intro _ t;obtain⟨j,p⟩:=hA a i;have q:Wk A a.s a.t (0+a.w):=.snoc i .nil;have r:=(hd a.t b p f).far (by omega);have l:=(hd a.s b j f).le_wk (q.trans r);have u:=(hd s b m f).le_wk (n.trans ((hd a.s b j f).far l.2));refine .snoc ((hOn a).2 ⟨i,.inr ⟨b,g,l.2,by omega,by omega⟩⟩) (o j (by omega))
theorem on_cut(g:t<N)(C:c t=k)(h:WkC A t v y):v<N->y=d v t->(c v=k/\Wk On v t y)\/ ∃b z n,b<N/\(c b=k/\ ∃e∈A,e.t=b/\c e.s≠k)/\Wk A v b z/\z=d v b/\Wk On b t n/\z+n=y:=by
 have i: ∀{u w x},Wk On u w x->Wk A u w x:=fun h=>h.mono (fun a j=>((hOn a).1 j).1)
 induction h with
 |nil=>intro _ _;exact .inl ⟨C,.nil⟩| @cons y a j r D=>
   intro _ K;obtain⟨f,l⟩:=hA a j;have m:Wk A a.s a.t (0+a.w):=.snoc j .nil;rw [XC]at m;have E:=(hd a.t t l g).le_wk r.toW;have L:=(hd a.s t f g).le_wk (m.trans ((hd a.t t l g).far E.2));rcases D l (by omega)with⟨F,G⟩|⟨b,z,n,o,p,s,M,B,O⟩
   . by_cases H:c a.s=k
     . have I:Wk On a.s a.t (0+a.w):=.snoc ((hOn a).2 ⟨j,.inl ⟨H,F⟩⟩) .nil;have:=I.trans G;grind
     . have q:=(hd a.s a.t f l).le_wk m;have J:=(hd a.s t f g).le_wk (((hd a.s a.t f l).far q.2).trans r.toW);grind
   . have q:=(hd a.s b f o).le_wk (m.trans s);have J:=(hd a.s t f g).le_wk (((hd a.s b f o).far q.2).trans (i B));exact .inr ⟨b,a.w+z,n,o,p,m.trans s,by omega,B,by omega⟩
theorem DW(i:s<N)(p:t<N)(v:c t=k)(y:IsD A s t x):IsD On s t x:=by
 have f: ∀{u w x},Wk On u w x->Wk A u w x:=fun h=>h.mono (fun a B=>((hOn a).1 B).1);rcases y with⟨j,l,q⟩|⟨j,l⟩
 . refine .inl ⟨j,?_,fun w m=>q w (f m)⟩;have e:x=d s t:=IsD.uniq (.inl ⟨j,l,q⟩) (hd s t i p);have C:=l.toC (t:=t) .nil;rcases on_cut hA hd hOn p v C i (by omega)with⟨_,h⟩|⟨b,z,E,g,n,r,F,D,G⟩
   . exact h
   . have hf:=((hd s b i g).le_wk r).2;have H:=(hd b b g g).self;have o:=on_tight hA hd hOn i g n hf r g (by omega);have:=o.trans D;grind
 . exact .inr ⟨j,fun w m=>l w (f m)⟩
end
theorem wnode_ok(a:OZ h0)(c:aQ h0 b p γ)(f:v<γ.nodes):aT zM 157 [p,.int .i64 (v:Nat)] h0 (.bool true):=by
 have S:=Si a;have d:(0:Int)<=(v:Int):=by omega
 have e:(v:Int)<(γ.nodes:Int):=by omega
 refine aa (n:=13) (rs:=[.tmp 4]) rfl Tryz.e157 rfl rfl rfl (lbt rfl) ?_;simp only [BZ,d,seval];refine ag (bM S.ok c) ?_;intro h g;simp only [BZ,ab,e,seval];exact g
theorem wsteps_ok(j:OZ h0){g:Nat}{f:Value}(k:Fl f):Ret zM 158 [ptrTo g,.int .i64 (s:Nat),f] h0 fun r h'=>Gr h0 h'/\ ∃a b4 b5,r=.func (.func 219) #[] #[ptrTo b5,ptrTo a,ptrTo b4]/\h0.n<=a/\h0.n<=b4/\h0.n<=b5/\b4≠a/\b4≠b5/\h'.load a 0 1=some [ptrTo g]/\Row h' b4 [.int .i64 (s:Nat)] 1/\h'.load b5 0 1=some [f]:=by have S:=Si j;refine aa (n:=8) (rs:=[.tmp 6]) rfl Tryz.e158 rfl rfl rfl (lbt rfl) ?_;simp only [BZ,seval];refine ac (bK (by exact bF)) S ?_;clear S;intro h a S b;simp only [BZ,if_false,seval];refine ac (bK (by exact aJ)) S ?_;clear S;intro h b4 S c;simp only [BZ,if_false,seval];refine ac (bK (by assumption)) S ?_;clear S;intro h b5 S d;simp only [BZ,ab,seval];have i:=S.apart;exact⟨S.gr,a,b4,b5,rfl,b,c,d,fun e=>(by subst e;simp [keys]at i),fun e=>(by subst e;simp [keys]at i),S.ld m2 rfl,S.row m1,S.ld m0 rfl⟩
theorem steps_it(r:OZ hq)(H:Gr hq h0){O:Nat}(hn:aQ hq nb (ptrTo O) γ){I:Value}{ids:List Nat}(K:aD hq 1 bO I ids)(hp:iL γ.arcs s ids t w)(hl:ids.length<=1000){p:Nat}
 (e3:h0.load p 0 1=some [ptrTo O]) (e4:Row h0 b4 [.int .i64 (s:Nat)] 1) (e5:h0.load b5 0 1=some [I]) (d3:b4≠p) (d5:b4≠b5) (dq:hq.n<=b4):
 sX zM 219 [ptrTo b5,ptrTo p,ptrTo b4] h0 (fun c=>c=b5\/c=p\/c<hq.n) (· =b4) (ids.map fun(a:Nat)=>[.agg ⟨cI (γ.arcs.getD a default)⟩,.bool true]):=by
 intro lb J Z hz Y hW h F f k u y;have l:=H.ok;obtain⟨p1,p2,p3⟩:=hp.at
 have d:Row h b4 [.int .i64 (s:Nat)] 1:=Row.of_get (k b4 rfl) e4;have q5:=f.load l e5 (.inl rfl);have fI:=K.fl;refine enter (n:=35) (rs:=[]) rfl Tryz.e219 rfl rfl rfl (lbt rfl) ?_;simp only [BZ,q5,K.lenq,seval];refine bA (fun(i:Nat) m h=>i<=ids.length/\ ∃F,ItS h0 (fun c=>c=b5\/c=p\/c<hq.n) h F/\b4∉F/\J i h F/\Row h b4 [.int .i64 (mT γ.arcs s ids i:Nat)] 1/\m 0=.func (.yield lb) #[] #[]/\m 2=ptrTo p/\m 3=ptrTo b4/\m 9=I/\m 10=.int .i64 (ids.length:Nat)/\m 11=.int .i64 i) (fun i=>ids.length-i) ?_ 0 _ _ ?_
 . clear q5 d y u k f F h;intro i ih m h ⟨hi,F,f,u,y,d,r0,r2,r3,r9,r10,r11⟩;have wi:aq .i64 ((i:Int)+1)=((i+1:Nat):Int):=(by rw [wrap64]<;>omega);by_cases hlt:i<ids.length
   . obtain⟨L,g⟩:=p1 i hlt;have ea:ids.getD i 0=ids[i]:=(by rw [Xa,Xb hlt];rfl);have P:mT γ.arcs s ids (i+1)=(γ.arcs.getD ids[i] default).t:=(by unfold mT;rw [if_neg (by omega),XI,ea]);have Q:(ids.map fun(a:Nat)=>[Value.agg ⟨cI (γ.arcs.getD a default)⟩,.bool true])[i]? =some [.agg ⟨cI (γ.arcs.getD ids[i] default)⟩,.bool true]:=(by rw [Xj,Xb hlt];rfl);rw [ea]at L g;obtain⟨a,R⟩: ∃a,ids[i]=a:=⟨_,rfl⟩;have T:aD h 1 bO I ids:=f.sl l (K.gr H) (fun b h=>.inr (.inr (K.lt r h)));obtain⟨c,o,x0,M⟩:=T.ix (kd:=.i64) dw hlt;rw [R]at M L g P Q;replace M:h.load c o 1=some [.int .i64 (a:Nat)]:=M;have q3:=f.load l e3 (.inr (.inl rfl));have q4:=d.load1 (o:=0) rfl;have nt:aQ h nb (ptrTo O) γ:=hn.keep r (f.keep (Gr.keep H) H.n (fun c hc=>.inr (.inr hc)));have S:=Si f.ok;have ga:γ.arcs[a]=γ.arcs.getD a default:=(by simp [Xa,L]);have ak:=d.lt f.ok;simp only [BZ,r2,r9,r10,r11,aI,hlt,x0,M,q3,seval];refine step_ret (jB S.ok nt L) ?_;rintro rv h ⟨U,rfl⟩;replace S:=S.call U;rw [ga];generalize hA:γ.arcs.getD a default=A at g P Q;have z:(A.s:Int)=(mT γ.arcs s ids i:Int):=(by rw [g]);have V:(ids.map fun(a:Nat)=>[Value.agg ⟨cI (γ.arcs.getD a default)⟩,.bool true])[i]? =some [.agg ⟨[.int .i64 (mT γ.arcs s ids i:Nat),.int .i64 A.t,.int .i64 A.w]⟩,.bool true]:=(by rw [Q,<-g];rfl);simp only [BZ,cI,seval];refine ac aB S ?_;clear S;intro h B S al;simp only [BZ,seval];refine aC (S.store (i:=0) rfl ?_ ?_ rfl rfl ?_ ono) ?_
     . exact(by exact Tryz.t135.2.1)
     . exact(by intro x e;cases e)
     . exact lbt rfl
     clear S;rintro h ⟨S,mo⟩;clear mo;simp only [LC,ae,lay,Xm,Xn,seval]at S;have sA:=f.gr S.gr;have jA:=Y.gr _ _ _ _ y S.gr;have j:=d.gr S.gr;have W:=j.load1 (o:=0) rfl;have R7:=S.row (b:=B) m0;have n7:B∉F:=fun C=>(by have:=f.lt _ C;have:=U.n;omega);have k7:=R7.lt S.ok;have d7:B≠b4:=fun e=>(by have:=U.n;omega);simp only [BZ,r0,r3,W,z,XP,XU,XO,S.ld (b:=B) (o:=0) m0 rfl,S.lds (b:=B) (o:=0) (n:=3) m0 (lbt rfl),seval];refine c7 Y sA jA (i:=i) V ?_ ?_ ?_
     . intro N F3 D q f3 X;have E:Row N b4 [.int .i64 (mT γ.arcs s ids i:Nat)] 1:=f3.has (o:=.row _ 1) j u;have ad:=f3.has (o:=.row _ 1) R7 n7;have af:b4∉F3:=fun C=>(X b4 C).elim u (fun h=>by have:=S.fr.n;omega);have ai:=Row.load1 (o:=1) ad rfl;have S:=St.init1 q.ok (o:=.row _ 1) E;simp only [BZ,r3,ai,seval];refine aC (aE S (i:=0) rfl Tryz.t3.2.2.1 aJ (Xd (lbt rfl)) ono) ?_;clear S;rintro h4 ⟨S,_⟩;simp only [LC]at S;have G:=S.fr;simp only [BZ,r11,wi,seval];refine ih (i+1) _ _ (by omega) ⟨by omega,F3,?_,af,hW _ _ _ _ D G,by rw [P];exact S.row m0,by simp [aG,r0,r2,ah,r3,r9,r10]⟩;exact⟨G.ok,Xo q.n G.n,fun b k hd=>(G.get b (Xc k q.n) (by rcases hd with h|h|h;exact fun e=>d5 (by omega);exact fun e=>d3 (by omega);exact fun e=>by omega)).trans (q.data b k hd),q.apart,fun b k=>Xc (q.lt b k) G.n⟩
     . intro N D _;simp only [BZ,seval];exact iA rfl ⟨rfl,.inr (.inl ⟨_,rfl,D⟩)⟩
     . intro v N D;exact absurd D (hz v N)
   . simp only [BZ,r10,r11,aI,hlt,seval];have:i=ids.length:=(by omega);subst this;exact cg (bV ⟨rfl,_,rfl,rfl,.inl ⟨_,F,rfl,by rw [Xp];exact y⟩⟩)
 . exact⟨Xh _,F,f,fun C=>u b4 C rfl,y,d,by simp [aG,cZ,ah]⟩
theorem CB(R:OZ h0)(E:Good γ){U:Nat}(V:aQ h0 nb (ptrTo U) γ){W:Value}{ids:List Nat}(hs:s<γ.nodes)(Y:aD h0 1 bO W ids)(hl:ids.length<=1000)(Z:iL γ.arcs s ids u w)(hw:u=t\/(u≠t/\w=0)):
 Ret zM 66 [ptrTo U,.int .i64 (s:Nat),.int .i64 (t:Nat),W] h0 fun r h'=>Gr h0 h'/\r=.tuple #[.int .i64 (w:Nat),.bool (decide (u=t))]:=by
 have S:=Si R;have fI:=Y.fl;obtain⟨p1,p2,p3⟩:=Z.at
 refine aa (n:=40) (rs:=[.cell 8 2,.tmp 9]) rfl Tryz.e66 rfl rfl rfl (lbt rfl) ?_;simp only [BZ];refine ac aB S ?_;clear S;intro h f S ad;simp only [BZ,seval];refine ag (wnode_ok S.ok (V.gr S.gr) hs) ?_;intro h g;replace S:=S.call g;clear g;simp only [BZ,seval];refine ac aB S ?_;clear S;intro h d S G;simp only [BZ,seval];refine aC (aE S (i:=0) rfl Tryz.t3.2.2.1 aJ (Xd (lbt rfl)) ono) ?_;clear S;rintro h ⟨S,_⟩;simp only [LC]at S;simp only [BZ,run_label,seval];have k0:=S.fr.n;refine step_ret (wsteps_ok S.ok fI) ?_;rintro r hA ⟨g,b3,H,b5,rfl,n3,n4,n5,d3,d5,y3,y4,y5⟩;have k8:=(S.row (b:=f) m1).lt S.ok;have ai:=(S.row (b:=d) m0).lt S.ok;replace S:=S.call g;have it:=steps_it R S.gr V Y Z hl y3 y4 y5 d3 d5 (by omega);simp only [BZ];refine ie S (g:=219) (a:=#[]) (b:=#[ptrTo b5,ptrTo b3,ptrTo H]) (by simp [bI,aG,ah]) rfl rfl ?_;intro h2 q v z ak al I;have af:d≠H:=by omega
 have an:f≠H:=by omega
 obtain⟨X,hX,z⟩: ∃X:fZ,X=_/\St NoM h0 h2 [(v,.loop X),(q,.dfr),(d,.row [.int .i64 (s:Nat)] 1),(f,.row [.int .i64 0] 1)] []:=⟨_,rfl,z⟩;have z0:mT γ.arcs s ids 0=s:=rfl;have z1:sumA γ.arcs ids 0=0:=rfl;have J:=y4.lt S.ok;have hJ:Yld zM v (fun k h' F=>St NoM h0 h' [(v,.loop X),(q,.dfr),(d,.row [.int .i64 (mT γ.arcs s ids k:Nat)] 1),(f,.row [.int .i64 (sumA γ.arcs ids k:Nat)] 1)] []/\k<=ids.length/\sumA γ.arcs ids k<=k*2147483647/\F=[v,q,d,f]) (fun _ _=>False) (ids.map fun(a:Nat)=>[.agg ⟨cI (γ.arcs.getD a default)⟩,.bool true]):=by
  refine⟨?_,?_,fun _ _ h=>h.elim,?_⟩
  . rintro i h F ⟨S,_,_,rfl⟩;exact⟨S.ok,fun b j=>S.key_lt (by simpa [keys]using j)⟩
  . rintro i h F h' ⟨S,a,b,rfl⟩ gg;exact⟨S.call gg,a,b,rfl⟩
  . rintro i x hR F K ⟨S,a,j,rfl⟩;have l:i<ids.length:=(by have:=(List.getElem?_eq_some_iff.1 K).1;simpa using this);rw [Xj,Xb l]at K;cases K;obtain⟨M,ax⟩:=p1 i l;have ea:ids.getD i 0=ids[i]:=(by rw [Xa,Xb l];rfl);have en:mT γ.arcs s ids (i+1)=(γ.arcs.getD ids[i] default).t:=(by unfold mT;rw [if_neg (by omega),XI,ea]);have m:=sumA_succ (A:=γ.arcs) l;rw [ea]at m M;have ay:(γ.arcs.getD ids[i] default).w<=2147483647:=(by have:γ.arcs.getD ids[i] default∈γ.arcs:=(by rw [Xa,Xb M];exact Xe M);exact(E.arcs _ this).2.2);have ws:aq .i64 ((sumA γ.arcs ids i:Int)+((γ.arcs.getD ids[i] default).w:Int))=((sumA γ.arcs ids (i+1):Nat):Int):=(by rw [m,wrap64]<;>omega);subst hX;refine ii (S.get m0) (by rw [Tryz.e66];rfl) rfl ?_;have S0:=S;replace S:=S.base;simp only [BZ,cI];refine ac aB S ?_;clear S;intro h B S N;simp only [BZ,seval];refine aC (S.store (i:=0) rfl ?_ ?_ rfl rfl ?_ ono) ?_
    . exact(by exact Tryz.t135.2.1)
    . exact(by intro x e;cases e)
    . exact lbt rfl
    clear S;rintro h ⟨S,O⟩;clear O;simp only [LC,ae,lay,Xm,Xn,seval]at S;simp only [BZ,seval];refine gu S (i:=1) rfl rfl rfl rfl rfl ?_;clear S;intro h S;simp only [LC]at S;simp only [BZ,ws,S.ld (b:=f) (o:=0) m4 rfl,S.ld (b:=B) (o:=2) m0 rfl,seval];refine aC (aE S (i:=4) rfl Tryz.t2.2.2.1 aJ (Xd (lbt rfl)) ono) ?_;clear S;rintro h ⟨S,_⟩;simp only [LC]at S;simp only [BZ,S.ld (b:=B) (o:=1) m0 rfl,seval];refine aC (aE S (i:=3) rfl Tryz.t3.2.2.1 aJ (Xd (lbt rfl)) ono) ?_;clear S;rintro h ⟨S,_⟩;simp only [LC]at S;simp only [BZ];refine dP S (i:=1) rfl ?_;clear S;intro h S;simp only [LC]at S;rw [<-en]at S;refine .inl ⟨rfl,_,⟨S0.rebase S.drop1,by omega,by omega,rfl⟩,?_,fun c C=>.inl C⟩;have:=S.fr;simp only [keys,Xv,Xz,Xs,Xx]at this;exact this
 refine cH (it v _ _ (fun _ _ h=>h) hJ ?_ h2 [v,q,d,f] ?_ (fun b j=>?_) (fun b j=>?_) ⟨by rw [z0,z1];exact z,Xh _,by rw [z1];exact Xh _,rfl⟩) fun o rc h' y=>i6 y ?_
 . rintro i h F h' ⟨T,a,b,rfl⟩ O;refine⟨T.step O (fun c C=>.inr (by subst C;omega)) (fun c C e=>?_),a,b,rfl⟩;subst e;simp only [keys,Xv,Xz,Xs,Xx,Xk,Xg,or_false]at C;omega
 . refine⟨z.ok,I.n,fun b j _=>I.get b j,fun b j h=>?_,fun b j=>z.key_lt (by simpa [keys]using j)⟩;simp only [Xk,Xg,or_false]at j;rcases j with rfl|rfl|rfl|rfl
   . omega
   . omega
   . rcases h.2 with e|e|e<;>omega
   . rcases h.2 with e|e|e<;>omega
 . subst j;exact I.get _ J
 . intro e;subst e;simp only [Xk,Xg,or_false]at j;omega
 . rintro F ⟨T,_,_,rfl⟩;rw [Xp]at T;rw [p2,p3]at T;subst hX;refine⟨_,T.get m0,Xy,?_⟩;replace T:=T.dead;have S:=T;have c0: ¬(u:Int)<0:=(by omega);have P: ¬(t:Int)<0:=(by omega);show Run _ _ _ _ _ _ _ _;by_cases p:u=t
   . have Q:(u:Int)=(t:Int):=(by omega);simp only [BZ,P,Q,S.ld (b:=d) (o:=0) m1 rfl,S.ld (b:=f) (o:=0) m2 rfl,seval];refine aC (aE T (i:=2) rfl Tryz.t2.2.2.1 aJ (Xd (lbt rfl)) ono) ?_;clear S;rintro h3 ⟨S,_⟩;simp only [LC]at S;simp only [BZ];refine cS (gG [q] _ (L:=[(d,_),(f,_)]) S.base fun h4 D=>?_);refine⟨rfl,(aZ (by decide) (by simp only [aF,ah,seval];exact iY Tryz.t2.2.1 (D.ld (b:=f) (o:=0) m1 rfl))).2 ((dK (by decide)).2 (bQ.2 ⟨(S.rebase D).gr,?_⟩))⟩;rw [decide_eq_true p];rfl
   . have Q: ¬(u:Int)=(t:Int):=(by omega);have w0:w=0:=(hw.resolve_left p).2;subst w0;simp only [BZ,Int.cast_ofNat_Int,c0,Q,S.ld (b:=d) (o:=0) m1 rfl,S.ld (b:=f) (o:=0) m2 rfl,seval];refine aC (aE T (i:=2) rfl Tryz.t2.2.2.1 aJ (Xd (lbt rfl)) ono) ?_;clear S;rintro h3 ⟨S,_⟩;simp only [LC]at S;simp only [BZ];refine cS (gG [q] _ (L:=[(d,_),(f,_)]) S.base fun h4 D=>?_);refine⟨rfl,(aZ (by decide) (by simp only [aF,ah,seval];exact iY Tryz.t2.2.1 (D.ld (b:=f) (o:=0) m1 rfl))).2 ((dK (by decide)).2 (bQ.2 ⟨(S.rebase D).gr,?_⟩))⟩;rw [decide_eq_false p];rfl
theorem fold_ge(l:List Int)(a:Int):a<=l.foldl max a/\ ∀x∈l,x<=l.foldl max a:=by
 induction l generalizing a with
 |nil=>exact⟨XF _,fun x h=>by cases h⟩
 | cons y e c=>
   obtain⟨f,d⟩:=c (max a y);refine⟨by rw [XN];omega,fun x b=>?_⟩;rw [XN];rcases List.mem_cons.1 b with rfl|b
   . omega
   . exact d x b
theorem lmax_ge{x:Int}(h:x∈l):x<=gY l:=by
 cases l with
 |nil=>cases h
 | cons y a=>
   rw [gY];rcases List.mem_cons.1 h with rfl|h
   . exact(fold_ge a _).1
   . exact(fold_ge a _).2 x h
theorem slB_of(R:Row h a (eu n f) 1):aD h 1 encB (.slice (some ⟨a,0,none⟩) n n) ((zO n).map f):=by refine .inr ⟨a,0,none,n,by simp,by simp,?_⟩;rw [R.load (by rw [uc];simp),XP,List.take_of_length_le (by rw [uc];simp),List.flatMap_map];exact congrArg some List.map_eq_flatMap
theorem alF_of(a:i<n):alF ((zO n).map f) i=f i:=by
 unfold alF;have:((zO n).map f).isEmpty=false:=by
  cases n with
  |zero=>omega|succ n=>simp [List.range_succ]
 rw [this,Bool.false_or];simp [Xa,a]
theorem AM{E:Env}{ρ:Operand->Value}{t:TypeId}{m k v:Operand}:aop E ρ h (.insert t m k v)=iu (jy E h t (ρ m) (ρ k) (ρ v)):=rfl
def tS(okW okF okT okX:Bool):Int:=if okW=true then(if okF=true then(if okT=true then(if okX=true then 0 else 19)else 18)else 17)else 16
theorem firstS_sf:q8 (sfRs b1 bq okW okF okT okX)=tS okW okF okT okX:=by cases okW<;>cases okF<;>cases okT<;>cases okX<;>rfl
def sfP(N:Nat)(l:List Int)(R Q:Nat->List Int)(act:List Int)(way:Int)(w:Nat):List Int:=if way=5 then(zO N).map (fun(v:Nat)=>cE N l.length R Q v w act)else []
theorem D4(h:tS okW okF okT okX=0):okW=true/\okF=true/\okT=true/\okX=true:=by cases okW<;>cases okF<;>cases okT<;>cases okX<;>first|exact⟨rfl,rfl,rfl,rfl⟩|(exact absurd h (by decide))
theorem Du(a:OZ h0):aT zM 54 [ptrTo bq] h0 (.tuple #[.slice none 0 0,.slice none 0 0]):=by have S:=Si a;refine aa (n:=4) (rs:=[.tmp 2,.tmp 3]) rfl Tryz.e54 rfl rfl rfl (lbt rfl) ?_;simp only [BZ,ab,seval];exact S.gr
theorem D8(B:OZ h0){m:Nat}{C D j:Value}{a:Int}(d:Row h0 bq (sfC C D pn j way s w a) 1)(t:TabAt h0 m j N l R Q)(k: ∀i,i<l.length->(R i).length=N)(p: ∀i,i<l.length->(Q i).length=N)(E:l.length<=16)(M:N<=100)(O:s<N)(F:w<N):
 Ret zM 55 [ptrTo bq] h0 fun r h'=>Gr h0 h'/\ ∃e f,r=.tuple #[e,f]/\aD h' 1 bO e (iq N l.length R Q s w a)/\aD h' 1 (encI .i64) f ((zO N).map fun(v:Nat)=>cE N l.length R Q v w ((iq N l.length R Q s w a).map fun(x:Nat)=>(x:Int)))/\ ∀c,(au e c\/au f c)->h0.n<=c:=by
 have S:=Si B;have P:Fl j:=by obtain⟨b,_,_,_,rfl,_⟩:=t.ex;exact bF
 have u:=d.load1 (o:=3) rfl;have G:=d.load1 (o:=5) rfl;have y:=d.load1 (o:=6) rfl;have H:=d.load1 (o:=7) rfl;refine aa (n:=36) (rs:=[.tmp 2,.tmp 3]) rfl Tryz.e55 rfl rfl rfl (lbt rfl) ?_;simp only [BZ];refine ar (aA rfl) (q:=0) (ps:=[]) (by kernel_rfl) ?_;simp only [BZ,cls,u,G,y,H,seval];refine cu (sY S.ok t k p E) ?_;rintro e h ⟨g,z,I⟩;replace S:=S.call g;have T:(iq N l.length R Q s w a).length<=16:=by unfold iq;rw [List.length_take];omega
 have U:=g.n;simp only [BZ,cls,seval];refine ar (aA rfl) (q:=0) (ps:=[]) (by kernel_rfl) ?_;simp only [BZ,cls,g.load u,g.load y,seval];refine cu (bPi_ok S.ok (t.gr g) k p (by omega) (by omega) (yg z) (by rw [Xp];omega) F) ?_;rintro f V ⟨A,J,K⟩;replace S:=S.call A;simp only [BZ,cls,ab,seval];exact⟨S.gr,_,_,rfl,z.gr A,J,fun c L=>L.elim (I c) (fun h=>by have:=K c h;omega)⟩
theorem D2  (ok:OZ h0) {bp nd:Nat}  (ai:Good γ) (hn:aQ h0 nb (ptrTo bp) γ) {pt pc pf:Value}   (T:TabQ h0 pt nd l R Q) (hl:l.length<=16) (fc:Fl pc) (ff:Fl pf) {p:Bool} (F: ∀h,Gr h0 h->aT zM 42 [ptrTo bp,pc,pf] h (.bool p))
 {mb fp fb W Z:Nat}  {cf:Nat->Nat} {Bt:Nat->Nat} (P:p=true->ia h0 mb pc γ.nodes m cf/\pf=ptrTo fp/\iB h0 fp fb W γ.arcs.length Z Bt/\W<=100/\Z=(γ.arcs.length+7)/8/\ ∀v,v<γ.nodes->cf v<W) {f t a:Int}:
 Ret zM 14 [ptrTo bp,pt,.agg ⟨[pc,pf]⟩,.agg ⟨[.int .i64 way,.int .i64 f,.int .i64 t,.int .i64 a]⟩] h0 fun r h'=>Gr h0 h'/\ ∃c d vA vB vE,r=.tuple #[nX c d vA vB,vE]/\(∀x,(au vA x\/au vB x\/au vE x)->h0.n<=x)/\
  (((tS (decide (way=4\/way=5)) (decide (0<=f/\f<γ.nodes)) (decide (0<=t/\t<γ.nodes)) (kY p way l.length nd γ.nodes)≠0\/f=t)/\c=tS (decide (way=4\/way=5)) (decide (0<=f/\f<γ.nodes)) (decide (0<=t/\t<γ.nodes)) (kY p way l.length nd γ.nodes)/\d=0/\vA=.slice none 0 0/\vB=.slice none 0 0/\vE=.slice none 0 0)\/
   (tS (decide (way=4\/way=5)) (decide (0<=f/\f<γ.nodes)) (decide (0<=t/\t<γ.nodes)) (kY p way l.length nd γ.nodes)=0/\ ∃(s w:Nat) (M:Fd),f=s/\t=w/\s≠w/\s<γ.nodes/\w<γ.nodes/\
     Ends γ.arcs (alF ((zO γ.arcs.length).map (iD Bt Z (cf w)))) (piF (sfP γ.nodes l R Q ((iq γ.nodes l.length R Q f t a).map fun(x:Nat)=>(x:Int)) way w)) w (gb (piF (sfP γ.nodes l R Q ((iq γ.nodes l.length R Q f t a).map fun(x:Nat)=>(x:Int)) way w)) s) M/\
     aD h' 4 iZ vE M.ev/\
     ((FAR<=M.dist/\c=20/\d=0/\vA=.slice none 0 0/\vB=.slice none 0 0)\/
      (M.dist<FAR/\c=0/\d=(M.dist:Nat)/\aD h' 1 bO vA M.arcs/\aD h' 1 bO vB (if way=5 then iq γ.nodes l.length R Q f t a else []))))):=by
 have S:=Si ok;have dj:=c9;have To:=T.tabO (by omega);have ft:Fl pt:=To.fl;have n1:=ai.n1;have n2:=ai.n2;have c3:=ai.many;obtain⟨cc,N⟩: ∃cc,tS (decide (way=4\/way=5)) (decide (0<=f/\f<γ.nodes)) (decide (0<=t/\t<γ.nodes)) (kY p way l.length nd γ.nodes)=cc:=⟨_,rfl⟩;refine aa (n:=84) (rs:=[.cell 8 43,.cell 9 44]) rfl Tryz.e14 rfl rfl rfl (lbt rfl) ?_;simp only [BZ,seval];refine ac (aV (by intro x e;cases e)) S ?_;clear S;intro h b6 S c4;simp only [ae]at S;simp only [BZ,if_false,seval];refine ac (aV (by intro x e;cases e)) S ?_;clear S;intro h b7 S c5;simp only [ae]at S;simp only [BZ];refine ac aB S ?_;clear S;intro h A S c6;simp only [BZ];refine ac aB S ?_;clear S;intro h B S da;simp only [BZ,ft,XP,XU,XO,S.lds (b:=b6) (o:=0) (n:=2) m3 (lbt rfl),S.lds (b:=b7) (o:=0) (n:=4) m2 (lbt rfl),seval];refine ac (aV (by intro x e;cases e)) S ?_;clear S;intro h E S b0;simp only [ae]at S;have Rq:Row h E (sfC pc pf (ptrTo bp) pt way f t a) 1:=S.row (b:=E) m0;have gq:=S.gr;have dm:=S.ok;have R6:=S.row (b:=b6) m4;have R7:=S.row (b:=b7) m3;have R8:=S.row (b:=A) m2;have R9:=S.row (b:=B) m1;have b2:B≠A/\(b7≠A/\b7≠B)/\(b6≠A/\b6≠B)/\E≠A/\E≠B:=by have ap:=S.apart;simp [keys]at ap;omega
 obtain⟨D,n7,n6,nq⟩:=b2;rename Hp=>hq;simp only [BZ,seval];refine step_ret (looks_ok S.ok) ?_;rintro r O ⟨g,b1,rfl,dn,y1⟩;have gA:=gq.trans g;replace Rq:=Rq.gr g;replace R6:=R6.gr g;replace R7:=R7.gr g;replace R8:=R8.gr g;replace R9:=R9.gr g;have ak:=gA.ok;clear S;have S:=Si ak;have a3:=hn.gr gA;have b3:=(T.gr gA).tabO (show l.length<1000 by omega);have FA: ∀h,Gr O h->aT zM 42 [ptrTo bp,pc,pf] h (.bool p):=fun h g=>F h (gA.trans g);have s1:=sfNet_ok Rq y1;have s2:=sfWay_ok Rq y1;have s3:=sfFrom_ok a3 Rq y1;have s4:=sfTo_ok a3 Rq y1;have s5:=sfFits_ok a3 b3 Rq fc ff FA;have it:=looks1_it ak y1 (okW:=decide (way=4\/way=5)) (okF:=decide (0<=f/\f<γ.nodes)) (okT:=decide (0<=t/\t<γ.nodes)) (okX:=kY p way l.length nd γ.nodes);have e0:=firstS_sf (b1:=b1) (bq:=E) (okW:=decide (way=4\/way=5)) (okF:=decide (0<=f/\f<γ.nodes)) (okT:=decide (0<=t/\t<γ.nodes)) (okX:=kY p way l.length nd γ.nodes);have bx: ∀r∈sfRs b1 E (decide (way=4\/way=5)) (decide (0<=f/\f<γ.nodes)) (decide (0<=t/\t<γ.nodes)) (kY p way l.length nd γ.nodes),∀h,Gr O h->aT zM r.g (r.pre.toList++r.post.toList) h (.bool r.ok):=by
  intro r hr;simp only [sfRs,Xk,Xg,or_false]at hr;rcases hr with rfl|rfl|rfl|rfl|rfl
  . exact s1
  . exact s2
  . exact s3
  . exact s4
  . exact s5
 clear s1 s2 s3 s4 s5;generalize b4:sfRs b1 E (decide (way=4\/way=5)) (decide (0<=f/\f<γ.nodes)) (decide (0<=t/\t<γ.nodes)) (kY p way l.length nd γ.nodes)=rs at it e0 bx;rw [N]at e0;have k8:=R8.lt ak;have k9:=R9.lt ak;simp only [BZ];refine ie S (g:=141) (a:=#[]) (b:=#[ptrTo b1]) (by simp [bI,aG,ah]) rfl rfl ?_;intro h2 G lb S' dq ds g2;obtain⟨X,hX,S'⟩: ∃X:fZ,X=_/\St NoM O h2 [(lb,.loop X),(G,.dfr)] []:=⟨_,rfl,S'⟩;have hJ :Yld zM lb (fun k h' F=>St NoM O h' [(lb,.loop X),(G,.dfr)] []/\(∀q∈rs.take k,q.ok=true)/\F=keys [(lb,Ob.loop X),(G,.dfr)] [])
  (fun o h'=>o=.ret (.bool false)/\ ∃(Y:fZ),cc≠0/\Y.st=2/\Y.pending=some .ret/\St (· ∈[B,A]) O h' [(lb,.loop Y),(G,.dfr),(B,.row [.slice none 0 0] 1),(A,.row [.int .i64 cc,.int .i64 0,.slice none 0 0,.slice none 0 0] 1)] []) (rs.map argS):=by
  refine⟨?_,?_,?_,?_⟩
  . rintro i h F ⟨S,_,rfl⟩;exact⟨S.ok,fun b I=>S.key_lt I⟩
  . rintro i h F h' ⟨S,a,rfl⟩ gg;exact⟨S.call gg,a,rfl⟩
  . rintro h h' ⟨a,Y,e1,e2,e3,S⟩ gg;exact⟨a,Y,e1,e2,e3,S.call gg⟩
  . rintro i x hR F hx ⟨S,ha,rfl⟩;have al:i<rs.length:=(by have:=(List.getElem?_eq_some_iff.1 hx).1;simpa using this);rw [Xj,Xb al]at hx;cases hx;have a4:=bx _ (Xe al);have tk:rs.take (i+1)=rs.take i++[rs[i]]:=Xf al;have a5:rs[i]? =some rs[i]:=Xb al;generalize rs[i]=r at a4 tk a5;obtain⟨rg,dc,b5,ca,a6⟩:=r;simp only []at a4;subst hX;refine ii (S.get m0) (by rw [Tryz.e14];rfl) rfl ?_;have S0:=S;replace S:=S.base;simp only [BZ,seval];refine gu S (i:=0) rfl rfl rfl rfl rfl ?_;clear S;intro h S;simp only [LC]at S;simp only [BZ,seval];have cb:Gr O h:=(S0.rebase S).gr;refine ag (a4 _ cb) ?_;intro h3 g3;replace S:=S.call g3;cases ca with
    | true=>
      simp only [BZ,seval];refine dP S (i:=0) rfl ?_;clear S;intro h S;simp only [LC]at S;refine .inl ⟨rfl,_,⟨S0.rebase S,?_,rfl⟩,S.fr,S.key_new⟩;intro q hq;rw [tk]at hq;rcases List.mem_append.1 hq with hq|hq
      . exact ha q hq
      . rw [List.mem_singleton.1 hq]
    | false=>
      have ec:cc=a6:=(by rw [<-e0];exact firstS_at a5 ha Bool.false_ne_true);have V:cc≠0:=(by rw [ec];have hm:=List.mem_of_getElem? a5;rw [<-b4]at hm;simp only [sfRs,Xk,Xg,or_false,Rs.mk.injEq]at hm;rcases hm with⟨_,_,_,_,rfl⟩|⟨_,_,_,_,rfl⟩|⟨_,_,_,_,rfl⟩|⟨_,_,_,_,rfl⟩|⟨_,_,_,_,rfl⟩<;>decide);have U:=S0.rebase S;have gU:=U.gr;have a7:=R8.gr gU;have a8:=R9.gr gU;have ks: ∀c∈keys [(lb,Ob.loop _),(G,Ob.dfr)] [],O.n<=c:=fun c j=>(U.key_own j).elim (fun h=>h) (fun h=>h.elim);have U2:=((U.mono (M':=(· ∈[B,A])) (fun _ h=>h.elim)).push (b:=A) (o:=.row _ 1) (.inr (by simp)) a7 (fun h=>by have:=ks _ h;omega)).push (b:=B) (o:=.row _ 1) (.inr (by simp)) a8 (fun h=>by
       rcases List.mem_cons.1 h with h|h
       . have ap:B≠A:=D;exact ap h
       . have:=ks _ h;omega)
      clear S U;have S:=U2;clear U2;rw [<-ec];simp only [BZ,seval];refine aC (S.store (i:=1) rfl Tryz.t43.2.1 (by intro x e;cases e) rfl rfl (lbt rfl) ono) ?_;clear S;rintro h ⟨S,_⟩;simp only [LC,ae,lay,Xm,Xn,seval]at S;simp only [BZ,seval];refine aC (aE S (i:=0) rfl Tryz.t44.2.2.1 bg (Xd (lbt rfl)) ono) ?_;clear S;rintro h ⟨S,_⟩;simp only [LC]at S;simp only [BZ];refine round_ret S (i:=2) rfl ?_;clear S;intro h S;simp only [LC]at S;exact .inr (.inl ⟨rfl,⟨rfl,_,V,rfl,rfl,S.permL (XB (l₁:=[_,_]) (l₂:=[_,_]))⟩,S.ok⟩)
 have bB: ∀(b:Nat),b∈keys [(lb,Ob.loop X),(G,.dfr)] []-> ¬(b<O.n/\b=b1):=fun b I h=>(S'.key_own I).elim (fun h1=>by omega) (fun h=>h.elim);refine cH (it lb _ _ (fun v h hz=>by cases hz.1) hJ h2 _ ?_ ⟨S',by simp,rfl⟩) fun o rc h' y=>?_
 . exact⟨S'.ok,S'.fr.n,fun b I hd=>g2.get b I,bB,fun b I=>S'.key_lt I⟩
 . obtain ⟨_,⟨u,F',rfl,U,ha,rfl⟩|⟨u,rfl,hz,Y,V,st,pe,U⟩|⟨w,rfl,hz,_⟩⟩:=y
   . rw [Xp,Xq]at ha;have ba:cc=0:=(by rw [<-e0];exact EF ha);subst hX;refine⟨_,U.get m0,Xy,?_⟩;replace U:=U.dead;show Run _ _ _ _ _ _ _ _;have gU:=U.gr;have a7:=R8.gr gU;have a8:=R9.gr gU;have ks: ∀c∈keys [(G,Ob.dfr)] [],O.n<=c:=fun c j=>(U.key_own j).elim (fun h=>h) (fun h=>h.elim);have U2:=((U.mono (M':=(· ∈[B,A])) (fun _ h=>h.elim)).push (b:=A) (o:=.row _ 1) (.inr (by simp)) a7 (fun h=>by have:=ks _ h;omega)).push (b:=B) (o:=.row _ 1) (.inr (by simp)) a8 (fun h=>by
      rcases List.mem_cons.1 h with h|h
      . exact D h
      . have:=ks _ h;omega)
     have S:=U2.permL (L':=[(G,.dfr),(B,_),(A,_)]) (XB (l₁:=[_]) (l₂:=[_,_]));clear U U2 R8 R9 hJ it bB;have an: ∀{x:Hp},Mo (· ∈[B,A]) O x->Gr h0 x:=fun f=>(gA.fr.trans f (fun c j=>.inr (by simp only [Xk,Xg,or_false]at j;omega)):Mo NoM h0 _).gr;have ax: ∀{x:Hp} {b:Nat} {l:List Value},Mo (· ∈[B,A]) O x->Row O b l 1->b≠A/\b≠B->Row x b l 1:=fun {x b l} f r e=>f.has (b:=b) (o:=.row l 1) r (by simp [e.1,e.2]);have ay:=(R7.gr gU).load1 (o:=1) rfl;have aL:=(R7.gr gU).load1 (o:=2) rfl;by_cases bb:f=t
     . subst bb;simp only [BZ,ay,aL,seval];refine aC (S.store (i:=2) rfl Tryz.t43.2.1 (by intro x e;cases e) rfl rfl (lbt rfl) ono) ?_;clear S;rintro h3 ⟨S,_⟩;simp only [LC,ae,lay,Xm,Xn,seval]at S;simp only [BZ,seval];refine aC (aE S (i:=1) rfl Tryz.t44.2.2.1 bg (Xd (lbt rfl)) ono) ?_;clear S;rintro h4 ⟨S,_⟩;simp only [LC]at S;simp only [BZ];refine cS (gG [G] _ (L:=[(B,_),(A,_)]) S.base fun h5 H=>?_);refine⟨rfl,(aZ (by decide) (by simp only [aF,ah,seval];exact bz Tryz.t43.1 Tryz.t43.2.1 (H.lds (b:=A) (o:=0) (n:=4) m1 (lbt rfl)))).2 ((aZ (by decide) (by simp only [aF,ah,seval];exact iY Tryz.t44.2.1 (H.ld (b:=B) (o:=0) m0 rfl))).2 (bQ.2 ?_))⟩;have gZ:Gr h0 h5:=(gA.fr.trans (S.rebase H).fr (fun c j=>.inr (by simp only [Xk,Xg,or_false]at j;omega)):Mo NoM h0 h5).gr;exact⟨gZ,_,_,_,_,_,rfl,fun x hx=>(by rcases hx with h|h|h<;>exact h.elim),.inl ⟨.inr trivial,by rw [N,ba],rfl,rfl,rfl,rfl⟩⟩
     . obtain⟨w1,w2,w3,w4⟩:=D4 (N.trans ba);have w1:=of_decide_eq_true w1;have w2:=of_decide_eq_true w2;have w3:=of_decide_eq_true w3;obtain⟨s,rfl⟩:=XA w2.1;obtain⟨w,rfl⟩:=XA w3.1;have hs:s<γ.nodes:=(by omega);have hw:w<γ.nodes:=(by omega);have bc:s≠w:=fun e=>bb (by rw [e]);unfold kY at w4;rw [Bool.and_eq_true]at w4;obtain⟨ch,cj,bm,bd,be,ck⟩:=P w4.1;subst cj;simp only [BZ,ay,aL,bb,seval];refine ac oq S ?_;clear S;intro h mm S dd;simp only [BZ,AM,seval];refine aC (S.mputI (i:=0) rfl Tryz.t118.1 Tryz.t3.1 nH _) ?_;clear S;rintro h3 ⟨bL,dt,c1,M1,S⟩;simp only [LC]at S;simp only [BZ,AM,seval];refine aC (S.mputI (i:=0) rfl Tryz.t118.1 Tryz.t3.1 M1 _) ?_;clear S bL;rintro h3 ⟨bL,cl,c2,M2,S⟩;simp only [LC]at S;have cn:h3.get mm=some (.map cl c2):=(S.own _ m0).2;have cp:=(ax S.fr R7 n7).load1 (o:=0) rfl;have lk:=lK (x:=way) Tryz.t118.1 Tryz.t3.1 (z:=.nilFunc) (by kernel_rfl) cn M2;replace S:=S.drop1;have cr:=an S.fr;have dv:=S.fr.n;have de:G<h3.n:=S.key_lt (b:=G) (by simp [keys]);have bP:=S.ok;have cs:=ax S.fr Rq nq;have J: ∃gq:FuncId,dN zM h3 118 (.map (some mm)) (.int .i64 way) false=some (.func (.func gq) #[ptrTo E] #[])/\Ret zM gq [ptrTo E] h3 fun r h'=>Gr h3 h'/\ ∃vB vP,r=.tuple #[vB,vP]/\aD h' 1 bO vB (if way=5 then iq γ.nodes l.length R Q s w a else [])/\aD h' 1 (encI .i64) vP (sfP γ.nodes l R Q ((iq γ.nodes l.length R Q s w a).map fun(x:Nat)=>(x:Int)) way w)/\ ∀c,(au vB c\/au vP c)->h3.n<=c:=by
        rcases w1 with rfl|rfl
        . refine⟨_,lk,(Du bP).mono fun r h' ⟨e,g⟩=>⟨g,_,_,e,.inl ⟨rfl,rfl⟩,.inl ⟨rfl,rfl⟩,fun c j=>j.elim (fun h=>h.elim) (fun h=>h.elim)⟩⟩
        . have w5:=w4.2;simp only [ne_eq,not_true_eq_false,decide_false,Bool.false_or,decide_eq_true_eq]at w5;obtain⟨cv,cx⟩:=w5;subst cx;obtain⟨m',t',lR,lQ⟩: ∃m',TabAt h0 m' pt γ.nodes l R Q/\(∀i,i<l.length->(R i).length=γ.nodes)/\ ∀i,i<l.length->(Q i).length=γ.nodes:=by
           rcases T with h|⟨_,_,rfl⟩
           . exact h
           . simp at cv
          exact⟨_,lk,D8 bP cs (t'.gr cr) lR lQ hl (by omega) hs hw⟩
       obtain⟨gq,cz,J⟩:=J;simp only [BZ,cp,cz,seval];refine step_ret J ?_;rintro r h4 ⟨g4,vB,vP,rfl,sB,sP,bT⟩;replace S:=S.call g4;have dx:=g4.n;have cA:=S.fr.n;simp only [BZ,seval];have bf:=an S.fr;have bh:=S.ok;have bi:=ax S.fr R7 n7;have bk:=ax S.fr R6 n6;have p7:=bi.lt bh;have p6:=bk.lt bh;have ay:=bi.load1 (o:=1) rfl;have aL:=bi.load1 (o:=2) rfl;have cN:=bk.load1 (o:=0) rfl;have cO:=bk.load1 (o:=1) rfl;have S0:=S;clear S;have S:=Si bh;rename Hp=>hR;refine ar (mK (ord:=[19,0,1,2,3,4,5,6,7,8,9,10,11,12,13,14,15,16,17,18,20,21]) rfl rfl (by simp only [iv,qx,gK,List.getElem?_cons_zero,List.getElem?_cons_succ,List.map_toArray,Xv,Xz,cond_true,cond_false,seval];exact rfl)) (q:=1) (ps:=[(0,16),(5,13),(3,13),(0,13),(7,12),(5,12),(3,12),(0,12)]) (by kernel_rfl) ?_;simp only [BZ,cls,seval];refine dg aB S ?_;clear S;intro h K S cT bn;have cW:=(S.row (b:=K) m0).lt S.ok;have gB:=S.gr;have nB:=gB.n;simp only [BZ,cls,gB.load ay,gB.load aL,gB.load cN,gB.load cO,seval];refine bC (uD S.ok ((ch.gr bf).gr gB) hw) ?_;intro h g;have e1:=ao g (show b6<_ by omega);have e2:=ao g (show b7<_ by omega);have e3:=ao g cW;have dy:=g.n;replace S:=S.call g;simp only [BZ,cls,seval];refine cu (allowF_ok S.ok ((bm.gr bf).gr S.gr) (ck w hw) bd (by omega) be) ?_;rintro r h ⟨ad,bl,rfl,RA,nA⟩;have e4:=ao ad (show b6<_ by omega);have e5:=ao ad (show b7<_ by omega);have e6:=ao ad (show K<_ by omega);have dF:=ad.n;replace S:=S.call ad;have cX:=slB_of RA;simp only [BZ,cls,sP.fl,seval];refine cu (tt S.ok ai ((hn.gr bf).gr S.gr) hs hw cX (.inr (by simp)) (sP.gr S.gr) (by unfold sfP;split;exact .inr (by simp);exact .inl rfl)) ?_;rintro r h ⟨a0,v,M,rfl,⟨xA,xE,rfl,G1,G2,d1,d2⟩,he⟩;have e7:=ao a0 (show b6<_ by omega);have e8:=ao a0 (show b7<_ by omega);have e9:=ao a0 (show K<_ by omega);have bo:Fl xA:=G1.fl;have br:Fl xE:=G2.fl;replace S:=S.call a0;simp only [BZ,cls,seval];refine cP (S.store (i:=0) rfl Tryz.t96.2.1 (by intro x e;cases e) rfl (by simp only [ae,XQ,XW,bo.2.1,br.2.1,Xi];rfl) (lbt rfl) ono) ?_;have a2: ∀c,au xA c\/au xE c->c≠K:=fun c j e=>(by have h1:_<=c:=j.elim (fun h=>(d1 c h).1) (fun h=>d2 c h);omega);clear S;rintro a1 ⟨S,mo⟩;simp only [LC,ae,lay,Xm,Xn,seval]at S;simp only [BZ,cls,seval];refine⟨by simp only [aO,aU,aK,aX,aN,ne_eq,not_false_eq_true,bj,bG,aW,aS,bI,ce,aF,Xi,ah,hU,aw e1,av e1,aw e2,av e2,aw e3,av e3,aw e4,av e4,aw e5,av e5,aw e6,av e6,aw e7,av e7,aw e8,av e8,aw e9,av e9,<-bn,seval],?_⟩;have bs:=S.row (b:=K) m0;have cY:aD a1 1 bO xA M.arcs:=(G1.sl rfl dw (by decide)).mo mo (fun c j e=>a2 c (.inl j) e);have bX:aD a1 4 iZ xE M.ev:=(G2.sl rfl re (by decide)).mo mo (fun c j e=>a2 c (.inr j) e);have c0:=sB.gr S.gr;have j0:=bs.load1 (o:=0) rfl;have j1:=bs.load1 (o:=1) rfl;have j2:=bs.load1 (o:=2) rfl;have S1:=S0.call S.gr;have C:K≠A/\K≠B:=⟨fun e=>by omega,fun e=>by omega⟩;clear S;have S:=S1;clear S1;have dO:G<hR.n:=S0.key_lt (b:=G) (by simp [keys]);have d0:O.n<=hR.n:=S0.fr.n;have d3:=gA.n;have bY:=(he.resolve_left (fun h=>bc h.1)).2;have V:=N.trans ba;by_cases hd:M.dist<FAR
       . have bt: ¬(72057594037927936:Int)<=(M.dist:Int):=(by omega);simp only [BZ,j0,bt,seval];refine ar (aA rfl) (q:=0) (ps:=[(7,8)]) (by kernel_rfl) ?_;simp only [BZ,cls,j0,j1,j2,bo,sB.fl,seval];refine cP (S.store (i:=2) rfl Tryz.t43.2.1 (by intro x e;cases e) rfl (by simp only [ae,XQ,XW,bo.2.1,sB.fl.2.1,Xi];rfl) (lbt rfl) ono) ?_;clear S;rintro h5 ⟨S,bu⟩;simp only [LC,ae,lay,Xm,Xn,seval]at S;simp only [BZ,cls,seval];refine cP (aE S (i:=1) rfl Tryz.t44.2.2.1 br (Xd (lbt rfl)) ono) ?_;clear S;rintro h6 ⟨S,bv⟩;simp only [LC]at S;simp only [BZ,seval];refine⟨by simp only [aO,aU,aK,aX,aN,ne_eq,not_false_eq_true,bj,bG,aW,aS,bI,ce,aF,Xi,ah,hU,di C.1,di C.1.symm,di C.2,di C.2.symm,di D,di D.symm,seval],?_⟩;refine cS (gG [G] _ (L:=[(B,_),(A,_)]) S.base fun h7 H=>?_);refine⟨rfl,(aZ (by decide) (by simp only [aF,ah,seval];exact bz Tryz.t43.1 Tryz.t43.2.1 (H.lds (b:=A) (o:=0) (n:=4) m1 (lbt rfl)))).2 ((aZ (by decide) (by simp only [aF,ah,seval];exact iY Tryz.t44.2.1 (H.ld (b:=B) (o:=0) m0 rfl))).2 (bQ.2 ?_))⟩;have gZ:=an (S.rebase H).fr;have bE: ∀{α:Type} {k:Nat} {af:α->List Value} {u:Value} {xs:List α},aD a1 k af u xs->(∀c,au u c->c≠A/\c≠B/\c≠G)->aD h7 k af u xs:=fun s I=>((s.mo bu (fun c j e=>(I c j).1 e)).mo bv (fun c j e=>(I c j).2.1 e)).mo H.fr (fun c j hm=>by
          have:=I c j;simp [keys]at hm;omega)
         have zE:=bE bX (fun c j=>by have:=d2 c j;exact⟨by omega,by omega,by omega⟩);have zA:=bE cY (fun c j=>by have:=(d1 c j).1;exact⟨by omega,by omega,by omega⟩);have zB:=bE c0 (fun c j=>by have:=bT c (.inl j);have:=cA;exact⟨by omega,by omega,fun e=>by omega⟩);exact⟨gZ,_,_,_,_,_,rfl,fun x hx=>(by rcases hx with h|h|h;(have:=(d1 x h).1;omega);(have:=bT x (.inl h);omega);(have:=d2 x h;omega)),.inr ⟨V,s,w,M,rfl,rfl,bc,hs,hw,bY,zE,.inr ⟨hd,rfl,rfl,zA,zB⟩⟩⟩
       . have bt:(72057594037927936:Int)<=(M.dist:Int):=(by omega);simp only [BZ,j0,bt,seval];refine ar (aA rfl) (q:=0) (ps:=[(2,3)]) (by kernel_rfl) ?_;simp only [BZ,cls,j2,seval];refine cP (S.store (i:=2) rfl Tryz.t43.2.1 (by intro x e;cases e) rfl (rfl) (lbt rfl) ono) ?_;clear S;rintro h5 ⟨S,bu⟩;simp only [LC,ae,lay,Xm,Xn,seval]at S;simp only [BZ,cls,seval];refine cP (aE S (i:=1) rfl Tryz.t44.2.2.1 br (Xd (lbt rfl)) ono) ?_;clear S;rintro h6 ⟨S,bv⟩;simp only [LC]at S;simp only [BZ,seval];refine⟨by simp only [aO,aU,aK,aX,aN,ne_eq,not_false_eq_true,bj,bG,aW,aS,bI,ce,aF,Xi,ah,hU,di C.1,di C.1.symm,di C.2,di C.2.symm,di D,di D.symm,seval],?_⟩;refine cS (gG [G] _ (L:=[(B,_),(A,_)]) S.base fun h7 H=>?_);refine⟨rfl,(aZ (by decide) (by simp only [aF,ah,seval];exact bz Tryz.t43.1 Tryz.t43.2.1 (H.lds (b:=A) (o:=0) (n:=4) m1 (lbt rfl)))).2 ((aZ (by decide) (by simp only [aF,ah,seval];exact iY Tryz.t44.2.1 (H.ld (b:=B) (o:=0) m0 rfl))).2 (bQ.2 ?_))⟩;have gZ:=an (S.rebase H).fr;have bE: ∀{α:Type} {k:Nat} {af:α->List Value} {u:Value} {xs:List α},aD a1 k af u xs->(∀c,au u c->c≠A/\c≠B/\c≠G)->aD h7 k af u xs:=fun s I=>((s.mo bu (fun c j e=>(I c j).1 e)).mo bv (fun c j e=>(I c j).2.1 e)).mo H.fr (fun c j hm=>by
          have:=I c j;simp [keys]at hm;omega)
         have zE:=bE bX (fun c j=>by have:=d2 c j;exact⟨by omega,by omega,by omega⟩);exact⟨gZ,_,_,_,_,_,rfl,fun x hx=>(by rcases hx with h|h|h;exact h.elim;exact h.elim;(have:=d2 x h;omega)),.inr ⟨V,s,w,M,rfl,rfl,bc,hs,hw,bY,zE,.inl ⟨by omega,rfl,rfl,rfl,rfl⟩⟩⟩
   . refine⟨Y,U.get m0,by rw [st];decide,?_⟩;rw [pe];replace U:=U.dead;show Run _ _ _ _ _ _ _ _;simp only [BZ];refine cS (gG [G] _ (L:=[(B,_),(A,_)]) U.base fun h5 H=>?_);refine⟨rfl,(aZ (by decide) (by simp only [aF,ah,seval];exact bz Tryz.t43.1 Tryz.t43.2.1 (H.lds (b:=A) (o:=0) (n:=4) m1 (lbt rfl)))).2 ((aZ (by decide) (by simp only [aF,ah,seval];exact iY Tryz.t44.2.1 (H.ld (b:=B) (o:=0) m0 rfl))).2 (bQ.2 ?_))⟩;have gZ:Gr h0 h5:=(gA.fr.trans (U.rebase H).fr (fun c j=>.inr (by simp only [Xk,Xg,or_false]at j;omega)):Mo NoM h0 h5).gr;exact⟨gZ,_,_,_,_,_,rfl,fun x hx=>(by rcases hx with h|h|h<;>exact h.elim),.inl ⟨.inl (by rw [N];exact V),by rw [N],rfl,rfl,rfl,rfl⟩⟩
   . cases hz
section
variable{key:Nat->Int}{n m:Nat}
theorem iN{a:Type}{f:a->Int}{d:Int}: ∀(l:List a) (b:Int),l.foldl (fun b i=>max b (f i)) b<=d↔b<=d/\ ∀i∈l,f i<=d
 | [],b=>by simp| x::l,b=>by
   rw [XN,iN l];simp only [Xk,forall_eq_or_imp];constructor
   . rintro⟨e,c⟩;exact⟨by omega,by omega,c⟩
   . rintro⟨e,c,g⟩;exact⟨by omega,g⟩
end
section
variable{γ:Gra}{l:List Int}
theorem Dz(e: ∀{s:Nat},s<γ.nodes-> ∀v,IsD (seen γ.arcs Arc.t Arc.s) s v (dOf (seen γ.arcs Arc.t Arc.s) s v))(f: ∀{s:Nat},s<γ.nodes-> ∀v,IsD (seen γ.arcs Arc.s Arc.t) s v (dOf (seen γ.arcs Arc.s Arc.t) s v))(t:fm γ.nodes l)
  (x:v<γ.nodes) (y:u<γ.nodes) (z:w<γ.nodes) (A:IsD (seen γ.arcs Arc.s Arc.t) v u d) (k:d<FAR) (i:Int):fg γ.nodes l.length (toR γ l) (frR γ l) i v w<=d+fg γ.nodes l.length (toR γ l) (frR γ l) i u w:=by
 unfold fg;by_cases a:0<=i/\i<(l.length:Int)
 . rw [if_pos ⟨by omega,by omega,a⟩,if_pos ⟨by omega,by omega,a⟩];obtain⟨i,rfl⟩:=XA a.1;have a:i<l.length:=(by omega);have E:=t.2 i a;obtain⟨s,B⟩: ∃s:Nat,l.getD i 0=s:=⟨(l.getD i 0).toNat,by omega⟩;have b:s<γ.nodes:=(by omega);rw [qR a x,qR a z,qR a y,qT a x,qT a z,qT a y,B,Xl];have F:=c9;have G:=(e b v).le;have H:=(e b w).le;have I:=(f b v).le;have J:=(f b w).le;have K:=(e b u).le;have L:=(f b u).le;have t1:=fun c=>tri_to (Ag γ.arcs) A (e b v) (e b u) k c;have t2:=fun c=>tri_fr A (f b v) (f b u) k c;rw [mE (by omega) (by omega),mE (by omega) (by omega),mE (by omega) (by omega),mE (by omega) (by omega)];generalize dOf (seen γ.arcs Arc.t Arc.s) s v=m at*
   generalize dOf (seen γ.arcs Arc.t Arc.s) s u=g at*
   generalize dOf (seen γ.arcs Arc.t Arc.s) s w=n at*
   generalize dOf (seen γ.arcs Arc.s Arc.t) s v=j at*
   generalize dOf (seen γ.arcs Arc.s Arc.t) s u=o at*
   generalize dOf (seen γ.arcs Arc.s Arc.t) s w=p at*
   have C:g<FAR->m<=d+g:=fun h=>(t1 h).2;have q:g<FAR->m<FAR:=fun h=>(t1 h).1;have D:j<FAR->o<=j+d:=fun h=>(t2 h).2;have r:j<FAR->o<FAR:=fun h=>(t2 h).1;clear t1 t2 e f t;have M:(if n<72057594037927936 then(if m<72057594037927936 then max 0 ((m:Int)-n)else 72057594037927936)else 0)<=d+(if n<72057594037927936 then(if g<72057594037927936 then max 0 ((g:Int)-n)else 72057594037927936)else 0):=by
    by_cases c:g<FAR
    . have:=C c;have:=q c
      repeat' split
      all_goals omega
    . repeat' split
      all_goals omega
   have N:(if j<72057594037927936 then(if p<72057594037927936 then max 0 ((p:Int)-j)else 72057594037927936)else 0)<=d+(if o<72057594037927936 then(if p<72057594037927936 then max 0 ((p:Int)-o)else 72057594037927936)else 0):=by
    by_cases c:j<FAR
    . have:=D c;have:=r c
      repeat' split
      all_goals omega
    . repeat' split
      all_goals omega
   omega
 . rw [if_neg (fun h=>a h.2.2),if_neg (fun h=>a h.2.2)];omega
theorem qd(b: ∀{s:Nat},s<γ.nodes-> ∀v,IsD (seen γ.arcs Arc.t Arc.s) s v (dOf (seen γ.arcs Arc.t Arc.s) s v))(c: ∀{s:Nat},s<γ.nodes-> ∀v,IsD (seen γ.arcs Arc.s Arc.t) s v (dOf (seen γ.arcs Arc.s Arc.t) s v))(e:fm γ.nodes l)
  (g:v<γ.nodes) (j:u<γ.nodes) (k:w<γ.nodes) (m:IsD (seen γ.arcs Arc.s Arc.t) v u d) (a:d<FAR) (act:List Int):cE γ.nodes l.length (toR γ l) (frR γ l) v w act<=d+cE γ.nodes l.length (toR γ l) (frR γ l) u w act:=by
 have h:=(iN (f:=fun i=>fg γ.nodes l.length (toR γ l) (frR γ l) i u w) act 0).1 (XF _);refine(iN (f:=fun i=>fg γ.nodes l.length (toR γ l) (frR γ l) i v w) act 0).2 ⟨?_,fun i n=>?_⟩
 . have:=h.1;unfold cE;omega
 . have o:=Dz b c e g j k m a i;have p:=h.2 i n;unfold cE;omega
theorem gm{v w:Int}:0<=cE N n R Q v w act:=((iN (f:=fun i=>fg N n R Q i v w) act 0).1 (XF _)).1
theorem qW{f:Nat->Int}(a:v<N)(h0:0<=f v):piF ((zO N).map f) v=f v:=by
 have b:=c9;unfold piF;rw [if_neg (by intro h;have:=congrArg List.length h;simp at this;omega)];have:((zO N).map f).getD v 0=f v:=by simp [Xa,a]
 rw [this];omega
theorem pi_feas(k: ∀{s:Nat},s<γ.nodes-> ∀v,IsD (seen γ.arcs Arc.t Arc.s) s v (dOf (seen γ.arcs Arc.t Arc.s) s v))(f: ∀{s:Nat},s<γ.nodes-> ∀v,IsD (seen γ.arcs Arc.s Arc.t) s v (dOf (seen γ.arcs Arc.s Arc.t) s v))(m:fm γ.nodes l)(b:Good γ)
  (n:w<γ.nodes) (act:List Int) (al:Nat->Bool):Feas γ.arcs al (piF ((zO γ.nodes).map fun(v:Nat)=>cE γ.nodes l.length (toR γ l) (frR γ l) v w act)):=by
 intro i g _;have c:γ.arcs.getD i default∈γ.arcs:=by rw [Xa,Xb g];exact Xe g
 generalize γ.arcs.getD i default=a at c;obtain⟨d,h,o⟩:=b.arcs a c;rw [qW d gm,qW h gm];have j:=f d a.t;have e:Wk (seen γ.arcs Arc.s Arc.t) a.s a.t (0+a.w):=by rw [iI];exact .snoc c .nil
 have p:=j.wk e;have:=qd k f m d h n j (by have:=c9;omega) act;omega
end
theorem Es{i v:Int}:fg N n R Q i v v=0:=by
 have: ∀x:Int,pu x x=0:=fun x=>by unfold pu wy;repeat' split;all_goals omega
 unfold fg
 split
 . rw [this,this];rfl
 . rfl
theorem qj{v:Int}(act:List Int):cE N n R Q v v act=0:=by refine Int.le_antisymm ((iN (f:=fun i=>fg N n R Q i v v) act 0).2 ⟨XF _,fun i _=>?_⟩) gm;show fg N n R Q i v v<=0;rw [Es];exact XF _
theorem BD(b: ∀i,al i=true)(d: ∀v w,Wk A v to w->pi v<(FAR:Int))(h:Wk A s v w):(∃x,Wk A v to x)->Wk (jI A al pi) s v w:=by
 induction h with
 |nil=>intro _;exact .nil| @snoc w a f _ l=>
   rintro⟨x,g⟩;have j:Wk A a.s to (0+a.w+x):=(Wk.snoc f .nil).trans g;refine .snoc (mI.2 ?_) (l ⟨_,j⟩);obtain⟨i,k,e⟩:=XE f;have c:A.getD i default=a:=(by rw [Xa,Xb k,e];rfl);exact⟨i,k,⟨b i,by rw [c];exact d _ _ j,by rw [c];exact d _ _ g⟩,c⟩
theorem rO{a:Arc}(h:a∈jI A al pi):a∈A:=by obtain⟨i,b,_,rfl⟩:=mI.1 h;rw [Xa,Xb b];exact Xe b
theorem isD_hArcs(d: ∀i,al i=true)(f: ∀v w,Wk A v to w->pi v<(FAR:Int))(h:IsD (jI A al pi) s to x):IsD A s to x:=by
 rcases h with⟨a,b,c⟩|⟨a,b⟩
 . exact .inl ⟨a,b.mono (fun _=>rO),fun w e=>c w (BD d f e ⟨0,.nil⟩)⟩
 . exact .inr ⟨a,fun w e=>b w (BD d f e ⟨0,.nil⟩)⟩
theorem xU{r:Fd}(h:Ends A al pi to σ r)(h0: ∀v,σ.K v=none):r=⟨FAR,[],σ.ev⟩:=h.uniq (.none h0)
theorem tJ(b: ∀a∈A,a.s<N)(h:Wk A v u x):v=u\/v<N:=by
 induction h with
 |nil=>exact .inl rfl| snoc c _ d=>
   rcases d with e|h
   . exact .inr (by rw [e];exact b _ c)
   . exact .inr h
section
variable{γ:Gra}{l:List Int}
theorem zI(q: ∀{s:Nat},s<γ.nodes-> ∀v,IsD (seen γ.arcs Arc.t Arc.s) s v (dOf (seen γ.arcs Arc.t Arc.s) s v))(m: ∀{s:Nat},s<γ.nodes-> ∀v,IsD (seen γ.arcs Arc.s Arc.t) s v (dOf (seen γ.arcs Arc.s Arc.t) s v))(r:fm γ.nodes l)(b:Good γ)
  (t:s<γ.nodes) (g:w<γ.nodes) (A:s≠w)  {e:Fd} (j:Ends γ.arcs (alF []) (piF ((zO γ.nodes).map fun(v:Nat)=>cE γ.nodes l.length (toR γ l) (frR γ l) v w act)) w (gb (piF ((zO γ.nodes).map fun(v:Nat)=>cE γ.nodes l.length (toR γ l) (frR γ l) v w act)) s) e):
 IsD γ.arcs s w e.dist/\(e.dist<FAR->iL γ.arcs s e.arcs w e.dist):=by
 have u: ∀a∈γ.arcs,a.t<γ.nodes/\a.w<=bR:=fun a k=>⟨(b.arcs a k).2.1,(b.arcs a k).2.2⟩;have y:=pi_feas q m r b g act (alF []);have n: ∀i,alF [] i=true:=fun _=>rfl;have B:=c9;have o: ∀v,v<γ.nodes-> ∀x,Wk γ.arcs v w x->cE γ.nodes l.length (toR γ l) (frR γ l) v w act<(FAR:Int):=fun v f x c=>by have z:=m f w;have C:=z.wk (by rw [iI];exact c);have:=qd q m r f g g z C.1 act;rw [qj]at this;omega
 have D: ∀v x,Wk γ.arcs v w x->v=w\/v<γ.nodes:=fun v x c=>tJ (fun a k=>(b.arcs a k).1) c;have p: ∀v x,Wk γ.arcs v w x->piF ((zO γ.nodes).map fun(v:Nat)=>cE γ.nodes l.length (toR γ l) (frR γ l) v w act) v<(FAR:Int):=fun v x c=>by have f:v<γ.nodes:=(D v x c).elim (fun h=>by rw [h];exact g) (fun h=>h);rw [qW f gm];exact o v f x c
 generalize piF ((zO γ.nodes).map fun(v:Nat)=>cE γ.nodes l.length (toR γ l) (frR γ l) v w act)=pi at j y p;refine⟨?_,ul (N:=γ.nodes) u j (pG t)⟩;by_cases d:pi s<(FAR:Int)
 . refine isD_hArcs n p (Cq u b.n2 y j (pG t) (fe_init d) ?_);unfold gb d9
   split<;>exact fun h=>by cases h
 . have E: ∀v,(gb pi s).K v=none:=fun v=>by
    unfold gb d9
    split
    . rfl
    . rename_i F;simp only [not_or]at F;exact absurd (by omega) d
   rw [xU j E];exact .inr ⟨rfl,fun x c=>d (p s x c)⟩
end
theorem reachS_ev{lab:Nat}{p:List Nat}:(d9 pi σ v lab p).ev=σ.ev/\(d9 pi σ v lab p).O=σ.O:=by unfold d9;grind
section
variable{γ:Gra}{s w:Nat}{l:List Int}
theorem flag_on(j:Good γ){als:List Bool}(f: ∀i,i<γ.arcs.length->(alF als i=true↔i∈dR γ c (c to))): ∀a,a∈jI γ.arcs (alF als) (piF [])↔a∈γ.arcs/\onF γ.arcs (fun v b=>dOf (seen γ.arcs Arc.t Arc.s) b v) c (c to) a:=by
 intro a;have n:=c9;rw [mI];have q: ∀i,i<γ.arcs.length->(i∈dR γ c (c to)↔onF γ.arcs (fun v b=>dOf (seen γ.arcs Arc.t Arc.s) b v) c (c to) (γ.arcs.getD i default)):=fun i d=>by
  rw [DH d];unfold insB onF j9;rw [decide_eq_true_iff];refine or_congr Iff.rfl ⟨?_,?_⟩
  . rintro⟨b,g,h⟩;obtain⟨_,g⟩:=List.mem_filter.1 g;exact⟨b,Bg.1 g,of_decide_eq_true h⟩
  . rintro⟨b,g,h⟩;obtain⟨o,e,m,rfl,p⟩:=g;exact⟨e.t,List.mem_filter.2 ⟨List.mem_range.2 (j.arcs e m).2.1,Bg.2 ⟨o,e,m,rfl,p⟩⟩,decide_eq_true h⟩
 constructor
 . rintro⟨i,d,k,rfl⟩;exact⟨by grind,(q i d).1 ((f i d).1 k.1)⟩
 . rintro⟨r,t⟩;obtain⟨i,d,rfl⟩:=List.mem_iff_getElem.1 r;have e:γ.arcs.getD i default=γ.arcs[i]:=(by grind);refine⟨i,d,⟨(f i d).2 ((q i d).2 (by rw [e];exact t)),?_,?_⟩,e⟩<;>rw [show piF []=fun _=>(0:Int)from funext fun v=>if_pos rfl]<;>show(0:Int)<_<;>omega
theorem wk_hArcsO{c:List Arc}(d: ∀a∈c,a∈A/\ ∃i,i<A.length/\al i=true/\A.getD i default=a)(o: ∀v x,Wk A v to x->pi v<(FAR:Int))(h:Wk c s v x):(∃y,Wk A v to y)->Wk (jI A al pi) s v x:=by
 induction h with
 |nil=>intro _;exact .nil| @snoc z a f _ g=>
   rintro⟨y,j⟩;obtain⟨b,i,k,m,e⟩:=d a f;have n:Wk A a.s to (0+a.w+y):=(Wk.snoc b .nil).trans j;exact .snoc (mI.2 ⟨i,k,⟨m,by grind,by grind⟩,e⟩) (g ⟨_,n⟩)
theorem xJ (E: ∀{s:Nat},s<γ.nodes-> ∀v,IsD (seen γ.arcs Arc.t Arc.s) s v (dOf (seen γ.arcs Arc.t Arc.s) s v)) (F: ∀{s:Nat},s<γ.nodes-> ∀v,IsD (seen γ.arcs Arc.s Arc.t) s v (dOf (seen γ.arcs Arc.s Arc.t) s v)) (f:Good γ) (r:s<γ.nodes) (G:w<γ.nodes)  {als:List Bool} (t: ∀i,i<γ.arcs.length->(alF als i=true↔i∈dR γ c (c w)))
  (H:Feas γ.arcs (alF als) pi) (n: ∀v x,Wk γ.arcs v w x->pi v<(FAR:Int)) {j:Fd} (u:Ends γ.arcs (alF als) pi w (gb pi s) j):
 IsD γ.arcs s w j.dist/\(j.dist<FAR->iL γ.arcs s j.arcs w j.dist/\Wk (jI γ.arcs (alF als) pi) s w j.dist):=by
 have C: ∀a∈γ.arcs,a.t<γ.nodes/\a.w<=bR:=fun a k=>⟨(f.arcs a k).2.1,(f.arcs a k).2.2⟩;have I:=c9;have y:=flag_on f t;have m:=F r w;rw [iI]at m;have J:=DW (A:=γ.arcs) (N:=γ.nodes) (fun a k=>⟨(f.arcs a k).1,(f.arcs a k).2.1⟩) (d:=fun v b=>dOf (seen γ.arcs Arc.t Arc.s) b v) (fun v b U K=>isD_back (E K v)) y r G rfl m;have V:=ul (N:=γ.nodes) C u (pG r);have L: ∀a∈jI γ.arcs (alF als) (piF []),a∈γ.arcs/\ ∃i,i<γ.arcs.length/\alF als i=true/\γ.arcs.getD i default=a:=fun a k=>by obtain⟨i,M,z,e⟩:=mI.1 k;exact⟨rO k,i,M,z.1,e⟩
 have B: ¬pi s<(FAR:Int)->j.dist=FAR:=fun g=>by
  have O: ∀v,(gb pi s).K v=none:=fun v=>by simp_all[gb,d9,not_or,absurd]
  rw [xU u O]
 have o:pi s<(FAR:Int)->IsD (jI γ.arcs (alF als) pi) s w j.dist:=fun g=>Cq C f.n2 H u (pG r) (fe_init g) (by grind[gb,reachS_ev]);by_cases D:dOf γ.arcs s w<FAR
 . have P:=m.far D;have Q:=J.far D;have p:=o (n s _ P);have R:=wk_hArcsO L n Q ⟨0,.nil⟩;have q:=p.wk R;have S:=(p.far q.1).mono (fun _=>rO);have T:=m.wk S;grind
 . have e:j.dist=FAR:=by
    by_cases g:pi s<(FAR:Int)
    . have p:=o g;by_cases h:j.dist<FAR
      . have T:=m.wk ((p.far h).mono (fun _=>rO));omega
      . have:=p.le;omega
    . exact B g
   have W:dOf γ.arcs s w=FAR:=(by have:=m.le;omega);grind
end
theorem toR_len:(toR γ l i).length=γ.nodes:=by unfold toR;exact tV _ _ _
theorem frR_len:(frR γ l i).length=γ.nodes:=by unfold frR;exact tV _ _ _
theorem A8(f: ∀{s:Nat},s<γ.nodes-> ∀v,IsD (seen γ.arcs Arc.t Arc.s) s v (dOf (seen γ.arcs Arc.t Arc.s) s v))(e: ∀{s:Nat},s<γ.nodes-> ∀v,IsD (seen γ.arcs Arc.s Arc.t) s v (dOf (seen γ.arcs Arc.s Arc.t) s v))(m:way=5->fm γ.nodes l/\R=toR γ l/\Q=frR γ l)(b:Good γ)(c:w<γ.nodes)(al:Nat->Bool):
 Feas γ.arcs al (piF (sfP γ.nodes l R Q act way w))/\(∀v x,Wk γ.arcs v w x->piF (sfP γ.nodes l R Q act way w) v<(FAR:Int))/\piF (sfP γ.nodes l R Q act way w) w=0/\ ∀v,v<γ.nodes->way=5->piF (sfP γ.nodes l R Q act way w) v=cE γ.nodes l.length (toR γ l) (frR γ l) v w act:=by
 have n:=c9;by_cases h:way=5
 . obtain⟨g,rfl,rfl⟩:=m h;unfold sfP;rw [if_pos h];refine⟨pi_feas f e g b c act al,fun v x j=>?_,by rw [qW c gm,qj],fun v d _=>qW d gm⟩;have d:v<γ.nodes:=(tJ (fun a o=>(b.arcs a o).1) j).elim (fun h=>by rw [h];exact c) (fun h=>h);rw [qW d gm];have k:=e d w;have p:=k.wk (by rw [iI];exact j);have:=qd f e g d c c k p.1 act;rw [qj]at this;omega
 . unfold sfP;rw [if_neg h];have q:piF []=fun _=>(0:Int):=funext fun v=>if_pos rfl;rw [q];exact⟨fun i t _=>(by show(0:Int)<=_+0;omega),fun v x _=>(by show(0:Int)<_;omega),rfl,fun v _ r=>absurd r h⟩
theorem Et{l e:Nat}{o p:Nat->Nat}(b:Good γ)(q:aQ h0 k (ptrTo i) γ)(c:ia h0 l (ptrTo d) γ.nodes m o)(f:gY m+1=((e:Nat):Int))(r:iB h0 j n e γ.arcs.length a p): ∀h,Gr h0 h->aT zM 42 [ptrTo i,ptrTo d,ptrTo j] h (.bool true):=by intro h g;have t:=b.n2;have s:=c.len;have:=wj g.ok (q.gr g) (.inr ⟨⟨_,c.at0.gr g⟩,f.symm⟩:mS h (ptrTo d) m (e:Int)) (r.gr g).bits b.n1 (by omega);rw [s]at this;simpa using this
structure Rl where
 g:FuncId
 post:Array Value
 ok:Bool
 code:Int
def encR(r:Rl):List Value:=[.func (.func r.g) #[] r.post,.int .i64 r.code]
theorem encR_len(r:Rl):(encR r).length=2:=rfl
def qk:List Rl->Int
 | []=>0|r::l=>if r.ok=true then qk l else r.code
theorem De{rs:List Rl}(a:i<rs.length):qk (rs.drop i)=if rs[i].ok=true then qk (rs.drop (i+1))else rs[i].code:=by rw [XK a];rfl
theorem CY  (q:OZ h0) {v:Value} {rs:List Rl} (g:aD h0 2 encR v rs) (C:rs.length<1000) (s: ∀i (t:i<rs.length),(∀j,j<i->(rs.getD j ⟨0,#[],false,0⟩).ok=true)-> ∀h,Gr h0 h->aT zM rs[i].g rs[i].post.toList h (.bool rs[i].ok)):
 aT zM 106 [v] h0 (.int .i64 (qk rs)):=by
 have S:=Si q;refine aa (n:=18) (rs:=[.tmp 2]) rfl Tryz.e106 rfl rfl rfl (lbt rfl) ?_;simp only [BZ,g.lenq,seval];refine bA (fun(i:Nat) d h=>i<=rs.length/\St NoM h0 h [] []/\qk rs=qk (rs.drop i)/\(∀j,j<i->(rs.getD j ⟨0,#[],false,0⟩).ok=true)/\d 5=v/\d 6=.int .i64 (rs.length:Nat)/\d 7=.int .i64 i) (fun i=>rs.length-i) ?_ 0 _ _ ?_
 . clear S;intro i u d h ⟨t,S,e,hb,r5,r6,r7⟩;have w:aq .i64 ((i:Int)+1)=((i+1:Nat):Int):=(by rw [wrap64]<;>omega);by_cases hlt:i<rs.length
   . obtain⟨c,o,x,y⟩:=(g.gr S.gr).ix (kd:=.i64) encR_len hlt;have k:=s i hlt hb;have a:rs.getD i ⟨0,#[],false,0⟩=rs[i]:=(by rw [Xa,Xb hlt];rfl);rw [De hlt]at e;generalize rs[i]=r at k y e a;have l:=S.gr;have Sx:=S;replace S:=Si S.ok;simp only [BZ,r5,r6,r7,aI,hlt,x,y,encR,seval];refine ac aB S ?_;clear S;intro h m S p;simp only [BZ,seval];refine aC (S.store (i:=0) rfl ?_ ?_ rfl rfl ?_ ono) ?_
     . exact(by exact Tryz.t188.2.1)
     . exact(by intro x e;cases e)
     . exact lbt rfl
     clear S;rintro h ⟨S,z⟩;clear z;simp only [LC,ae,lay,Xm,Xn,seval]at S;simp only [BZ,S.ld (b:=m) (o:=0) m0 rfl,seval];refine ag (k _ (l.trans S.gr)) ?_;intro D A;replace S:=S.call A;cases f:r.ok with
     | true=>
       rw [f,if_pos rfl]at e;simp only [BZ,r7,w,seval];exact u (i+1) _ _ (by omega) ⟨by omega,Sx.call S.gr,e,fun j B=>by
        rcases Nat.lt_or_ge j i with h|h
        . exact hb j h
        . rw [show j=i by omega,a];exact f,by simp [aG,r5,r6]⟩
     | false=>rw [f,if_neg Bool.false_ne_true]at e;simp only [BZ,ab,S.ld (b:=m) (o:=1) m0 rfl,seval];exact⟨by rw [e],l.trans S.gr⟩
   . simp only [BZ,ab,r6,r7,aI,hlt,seval];have:i=rs.length:=(by omega);subst this;rw [List.drop_length]at e;exact⟨by rw [e];rfl,S.gr⟩
 . exact⟨Xh _,S,rfl,fun j B=>by omega,by simp [aG,cK]⟩
theorem CJ{f:Nat}{l:Nat}(c:aQ hq l (ptrTo i) γ){v:Int}(a:hq.load b2 0 1=some [.int .i64 v])(b:hq.load f 0 1=some [ptrTo i]): ∀h,Gr hq h->aT zM 105 [ptrTo b2,ptrTo f] h (.bool (decide (0<=v/\v<γ.nodes))):=by
 intro h g;have S:=Si g.ok;have m:=bD g.ok (g.load a);have o:=bD g.ok (g.load b);refine aa (n:=11) (rs:=[.tmp 2]) rfl Tryz.e105 rfl rfl rfl (lbt rfl) ?_;simp only [BZ];refine ar (aA rfl) (q:=0) (ps:=[(3,5)]) (by kernel_rfl) ?_;by_cases d:0<=v
 . simp only [BZ,cls,g.load a,g.load b,d,seval];refine bC (bM S.ok ((c.gr g).gr S.gr)) ?_;intro p e;have j:=ao e m;have k:=ao e o;replace S:=S.call e;simp only [BZ,cls,ab,seval];refine⟨by simp only [aO,aU,aK,aX,aN,ne_eq,not_false_eq_true,bj,bG,aS,kT,bI,ce,aF,ah,cZ,kD,rJ,Xi,av j,aw j,av k,aw k,seval],S.gr⟩
 . simp only [BZ,cls,ab,g.load a,g.load b,d,seval];refine⟨by simp only [aO,aU,aK,aX,aN,ne_eq,not_false_eq_true,bj,bG,aS,kT,bI,ce,aF,ah,cZ,kD,rJ,Xi,seval],by simp [d],S.gr⟩
theorem node_ok(c:OZ h0){v:Int}:Ret zM 104 [.int .i64 v,ptrTo a] h0 fun r h'=>Gr h0 h'/\ ∃b2,r=.func (.func 105) #[] #[ptrTo b2,ptrTo a]/\h'.load b2 0 1=some [.int .i64 v]:=by have S:=Si c;refine aa (n:=5) (rs:=[.tmp 3]) rfl Tryz.e104 rfl rfl rfl (lbt rfl) ?_;simp only [BZ,seval];refine ac (bK (by exact aJ)) S ?_;clear S;intro h b2 S b;simp only [BZ,ab,seval];exact⟨S.gr,b2,rfl,S.ld m0 rfl⟩
def isP:Value->Bool
 | .pointer none=>false|_=>true
theorem net2_ok(d:(∃b,p=ptrTo b)\/p=.pointer none)(c:hq.load a 0 1=some [p]): ∀h,Gr hq h->aT zM 107 [ptrTo a] h (.bool (isP p)):=by
 intro h g;have S:=Si g.ok;refine aa (n:=4) (rs:=[.tmp 1]) rfl Tryz.e107 rfl rfl rfl (lbt rfl) ?_;rcases d with⟨e,rfl⟩|rfl
 . simp only [BZ,ab,g.load c,seval];exact⟨rfl,S.gr⟩
 . simp only [BZ,ab,g.load c,seval];exact⟨rfl,S.gr⟩
theorem tab3_ok{m o p mk:Nat}{s:Value}{B:Nat}(c:aQ hq B (ptrTo o) γ)(T:TabO zM hq s p mk 41 40)(e:hq.load b4 0 1=some [s])(d:hq.load m 0 1=some [ptrTo o]): ∀h,Gr hq h->aT zM 108 [ptrTo b4,ptrTo m] h (.bool (decide (0<mk/\p=γ.nodes))):=by
 intro h g;have C:=T.fl;have S:=Si g.ok;have f:=bD g.ok (g.load e);have i:=bD g.ok (g.load d);refine aa (n:=14) (rs:=[.tmp 2]) rfl Tryz.e108 rfl rfl rfl (lbt rfl) ?_;simp only [BZ];refine ar (aA rfl) (q:=0) (ps:=[(6,7)]) (by kernel_rfl) ?_;simp only [BZ,cls,g.load e,g.load d,seval];refine cu (T.marks _ (g.trans S.gr)) ?_;rintro r D ⟨a,l,t,E⟩;replace S:=S.call a;have u:=ao a f;have v:=ao a i;by_cases w:0<mk
 . have j:(0:Int)<(l.length:Int):=(by omega);simp only [BZ,cls,t.lenq,j,a.load (g.load e),a.load (g.load d),seval];refine bC (T.nodes _ (g.trans S.gr)) ?_;intro F b;have x:=ao b (Xc f a.n);have y:=ao b (Xc i a.n);replace S:=S.call b;simp only [BZ,cls,b.load (a.load (g.load d)),seval];refine bC (bM S.ok ((c.gr g).gr S.gr)) ?_;intro G k;have z:=ao k (Xc f (a.trans b).n);have A:=ao k (Xc i (a.trans b).n);replace S:=S.call k;simp only [BZ,cls,ab,seval];refine⟨by simp only [aO,aU,aK,aX,aN,ne_eq,not_false_eq_true,bj,bG,aW,aS,bI,ce,aF,Xi,ah,cZ,av v,aw v,av u,aw u,av y,aw y,av x,aw x,av A,aw A,av z,aw z,seval],?_⟩;exact⟨by simp [w,Int.ofNat_inj],S.gr⟩
 . have j: ¬(0:Int)<(l.length:Int):=(by omega);simp only [BZ,cls,ab,t.lenq,j,seval];refine⟨by simp only [aO,aU,aK,aX,aN,ne_eq,not_false_eq_true,kD,rJ,Xi,seval],by simp [w],S.gr⟩
end Go.Ab

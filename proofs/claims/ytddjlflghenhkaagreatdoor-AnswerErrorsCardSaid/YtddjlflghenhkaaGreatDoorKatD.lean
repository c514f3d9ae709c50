/- Nets, cells, flags: what the functions do (part 4). -/
import Derived.Test.YtddjlflghenhkaaGreatDoorKatC
open Go.Ab.Tryz
open Go.Ab.Tryz renaming abEnv->zM
open List renaming range->zO,getElem?_eq_getElem->Xc,take_succ_eq_append_getElem->Xd,getD_eq_getElem?_getD->Xf,take->Xg,drop->Xh,getElem_mem->Xi,not_mem_nil->Xl,getElem?_map->Xm,take_length->Xn,mem_cons->Xo,length_map->Xp,all_cons->Xr,all_nil->Xs,drop_zero->Xt,getElem?_append_right->Xu,getElem?_append_left->Xw,map_cons->XA,perm_append_comm->XB,mem_append->XC,map_nil->XD,take_succ_cons->XG,take_zero->XH,mem_singleton->XJ,filterMap_nil->XK,set_cons_zero->XL,drop_eq_getElem_cons->XN,length_take->XO,getElem?_cons_zero->XQ,getElem?_cons_succ->XR,append_nil->XS,flatMap_append->XT,filterMap_cons->XU
open Nat renaming lt_of_lt_of_le->Xa,lt_of_succ_le->Xe,le_trans->Xj,zero_le->Xk,mul_one->Xv,zero_add->Xx,le_refl->Xz,zero_ne_one->XE,zero_mul->XF,one_mul->XI,add_sub_cancel_left->XP
open Bool renaming and_true->Xb
open Int renaming eq_ofNat_of_zero_le->Xq,toNat_natCast->Xy
open Function renaming comp_def->XM
set_option maxHeartbeats 4000000
set_option linter.defProp false
set_option linter.unusedVariables false
set_option linter.unusedSimpArgs false
namespace Go.Ab
variable{h h' h0 hB hq:Hp}
variable{f:Nat->Bool}
variable{E H N a b b1 b2 b3 b4 b5 bq i j k m mk n nb o r s x y:Nat}
variable{p pn v:Value}
variable{B c:Nat->Nat}
variable{d:Gra}
variable{F xs:List Nat}
variable{g:FuncId}
variable{Q R:Nat->List Int}
variable{l:List Int}
variable{D:Nat->Prop}
variable{okF okT okW okX:Bool}
variable{t:Int}
open Go.Proofs
set_option maxRecDepth 10000
structure gG(h:Hp)(nb:Nat)(p:Value)(N:Nat)(m:List Int)(c:Nat->Nat):Prop where
 at0:j7 h nb p m
 len:m.length=N
 val: ∀v,v<N->m.getD v 0=(c v:Int)
theorem gG.gr{h h':Hp}{a N:Nat}{p:Value}{m:List Int}{c:Nat->Nat}(x:gG h a p N m c)(g:Gr h h'):gG h' a p N m c:=⟨x.at0.gr g,x.len,x.val⟩
theorem gG.keep{h h':Hp}{a N:Nat}{p:Value}{m:List Int}{c:Nat->Nat}(d:OZ h)(x:gG h a p N m c)(g:eZ h h'):gG h' a p N m c:=by obtain⟨b,v,rfl,r,s,e,f⟩:=x.at0;exact⟨⟨b,v,rfl,g.row d r,s.keep d g,e,f⟩,x.len,x.val⟩
theorem uO(e:OZ h0){f:Nat}{m:List Int}(x:gG h0 f p N m c){v:Nat}(g:v<N):aO zM 57 [p,.int .i64 (v:Nat)] h0 (.int .i64 (c v:Nat)):=by
 have S:=Si e;obtain⟨b,t,rfl,r,s,_,_⟩:=x.at0;have h:=r.load1 (o:=0) rfl;have u:=x.len;have j: ¬(v:Int)<0:=by omega
 have k: ¬(m.length:Int)<=(v:Int):=by omega
 obtain⟨d,o,l,a⟩:=s.ix (kd:=.i64) (bO .i64) (i:=v) (by omega);have q:m[v]'(by omega)=(c v:Int):=by rw [<-x.val v g,Xf,Xc (by omega)];rfl
 rw [q]at a;replace a:h0.load d o 1=some [.int .i64 (c v:Nat)]:=a;refine aa (n:=27) (rs:=[.tmp 4]) rfl Tryz.e57 rfl rfl rfl (lbt rfl) ?_;simp only [BZ,ab,j,h,s.lenq,k,l,a,seval];exact S.gr
theorem inside_ok(z:OZ h0){B C q N:Nat}{m:List Int}(j:Good d)(D:aS h0 B (ptrTo q) d)(x:gG h0 C p d.nodes m c)(l:a<d.arcs.length):
 aO zM 184 [ptrTo q,p,.int .i64 (k:Nat),.int .i64 (a:Nat)] h0 (.bool (decide (c (d.arcs.getD a default).s=k/\c (d.arcs.getD a default).t=k))):=by
 have S:=Si z;have J:Fl p:=by obtain⟨b,_,rfl,_⟩:=x.at0;exact bD
 have r:d.arcs[a]=d.arcs.getD a default:=by simp [Xf,l]
 have E:d.arcs.getD a default∈d.arcs:=by rw [<-r];exact Xi l
 obtain⟨s,t,_⟩:=j.arcs _ E;refine aa (n:=34) (rs:=[.tmp 8]) rfl Tryz.e184 rfl rfl rfl (lbt rfl) ?_;simp only [BZ,seval];refine step_ret (ku S.ok D l) ?_;rintro K h ⟨F,rfl⟩;replace S:=S.call F;rw [r];generalize d.arcs.getD a default=A at s t;simp only [BZ,c7,seval];refine ac aA S ?_;clear S;intro h u S v;simp only [BZ,seval];refine aC (S.store (i:=0) rfl ?_ ?_ rfl rfl ?_ ono) ?_
 . exact(by exact Tryz.t135.2.1)
 . exact(by intro x e;cases e)
 . exact lbt rfl
 clear S;rintro h ⟨S,G⟩;clear G;simp only [LC,ae,lay,Xg,Xh,seval]at S;simp only [BZ,S.ld (b:=u) (o:=0) m0 rfl,seval];refine ag (uO S.ok (x.gr S.gr) s) ?_;intro L H;replace S:=S.call H;by_cases w:c A.s=k
 . have f:(c A.s:Int)=(k:Int):=(by omega);simp only [BZ,f,S.ld (b:=u) (o:=1) m0 rfl,seval];refine ag (uO S.ok (x.gr S.gr) t) ?_;intro M I;replace S:=S.call I;by_cases y:c A.t=k
   . have g:(c A.t:Int)=(k:Int):=(by omega);simp only [BZ,ab,g,seval];exact⟨by rw [decide_eq_true ⟨w,y⟩],S.gr⟩
   . have g: ¬(c A.t:Int)=(k:Int):=(by omega);simp only [BZ,ab,g,seval];exact⟨by rw [decide_eq_false (fun h=>y h.2)],S.gr⟩
 . have f: ¬(c A.s:Int)=(k:Int):=(by omega);simp only [BZ,ab,f,seval];exact⟨by rw [decide_eq_false (fun h=>w h.1)],S.gr⟩
theorem pairN{x:Option Tch}:jt none x=true:=by cases x<;>rfl
theorem eZ.grk(k:eZ hq h0)(n:hq.n<=h0.n)(g:Gr h0 h):eZ hq h:=fun b a=>(g.get b (Xa a n)).trans (k b a)
def HoldP(E:Env)(hq:Hp)(g:FuncId)(post:List Value)(N:Nat)(f:Nat->Bool):Prop:= ∀h,OZ h->eZ hq h->hq.n<=h.n-> ∀v,v<N->aO E g ([.int .i64 (v:Nat)]++post) h (.bool (f v))
theorem indexI_ok(a:OZ h0)(s:eZ hq h0)(p:hq.n<=h0.n){post:Array Value}(l:az h0 1 bK v xs)(C:xs.length<=1000)(t: ∀x∈xs,x<N)(hf:HoldP zM hq g post.toList N f):
 Ret zM 234 [v,.func (.func g) #[] post] h0 fun r h'=>Gr h0 h'/\ ∃z:Int,r=.int .i64 z/\(0<=z↔xs.any f=true):=by
 have S:=Si a;have D:=l.fl;refine aa (n:=19) (rs:=[.tmp 4]) rfl Tryz.e234 rfl rfl rfl (lbt rfl) ?_;simp only [BZ,l.lenq,seval];refine aW (fun(i:Nat) b h=>i<=xs.length/\Gr h0 h/\(∀j,(k:j<xs.length)->j<i->f xs[j]=false)/\b 0=v/\b 1=.func (.func g) #[] post/\b 7=.int .i64 (xs.length:Nat)/\b 8=.int .i64 i) (fun i=>xs.length-i) ?_ 0 _ _ ?_
 . clear S;intro i u b h ⟨hi,g1,hno,r0,r1,r7,r8⟩;have w:an .i64 ((i:Int)+1)=((i+1:Nat):Int):=(by rw [wrap64]<;>omega);by_cases hlt:i<xs.length
   . obtain⟨c,o,y,m⟩:=(l.gr g1).ix (kd:=.i64) dC hlt;replace m:h.load c o 1=some [.int .i64 (xs[i]:Nat)]:=m;simp only [BZ,r0,r1,r7,r8,aF,hlt,y,m,seval];refine ag (hf _ g1.ok (s.grk p g1) (Xj p g1.n) xs[i] (t _ (Xi hlt))) ?_;intro E q;cases d:f xs[i]with
     | true=>
       simp only [BZ,ab,seval];refine⟨g1.trans q,_,rfl,⟨fun _=>List.any_eq_true.2 ⟨_,Xi hlt,d⟩,fun _=>by omega⟩⟩
     | false=>
       simp only [BZ,r8,w,seval];refine u (i+1) _ _ (by omega) ⟨by omega,g1.trans q,fun j k A=>?_,by simp [aB,r0,r1,r7]⟩;by_cases e:j=i
       . subst e;exact d
       . exact hno j k (by omega)
   . simp only [BZ,ab,r7,r8,aF,hlt,seval];refine⟨g1,_,rfl,⟨fun h=>by omega,fun h=>?_⟩⟩;obtain⟨x,B,d⟩:=List.any_eq_true.1 h;obtain⟨j,k,e⟩:=List.getElem_of_mem B;rw [<-e,hno j k (by omega)]at d;cases d
 . exact⟨Xk _,Gr.refl a,fun j _ h=>by omega,by simp [aB,dh]⟩
theorem Cb(a:OZ h0)(j:eZ hq h0)(k:hq.n<=h0.n){post:Array Value}(d:az h0 1 bK v xs)(l:xs.length<=1000)(m: ∀x∈xs,x<N)(hf:HoldP zM hq g post.toList N f):
 aO zM 170 [v,.func (.func g) #[] post] h0 (.bool (xs.any f)):=by
 have S:=Si a;have o:=d.fl;refine aa (n:=9) (rs:=[.tmp 4]) rfl Tryz.e170 rfl rfl rfl (lbt rfl) ?_;simp only [BZ,seval];refine step_ret (indexI_ok a j k d l m hf) ?_;rintro r h ⟨e,z,rfl,i⟩;cases b:xs.any f with
 | true=>have c:=i.2 b;simp only [BZ,ab,c,seval];exact e| false=>
   have c: ¬0<=z:=fun h=>(by rw [i.1 h]at b;cases b);simp only [BZ,ab,c,seval];exact e
section
variable{hq:Hp}{γ:Gra}{nb mb bp k:Nat}{p:Value}{m:List Int}{c:Nat->Nat}
def beyB(γ:Gra)(c:Nat->Nat)(k a:Nat):Bool:=!decide (c (γ.arcs.getD a default).s=k)
theorem beyond_ok(f:OZ hq)(u:Good γ)(H:aS hq nb (ptrTo bp) γ)(x:gG hq mb p γ.nodes m c)(I:hq.load b1 0 1=some [ptrTo bp])(w:hq.load b2 0 1=some [p])(y:hq.load b3 0 1=some [.int .i64 (k:Nat)]):
 HoldP zM hq 239 [ptrTo b1,ptrTo b2,ptrTo b3] γ.arcs.length (beyB γ c k):=by
 intro h J g K a v;have S:=Si J;have z:γ.arcs[a]=γ.arcs.getD a default:=by simp [Xf,v]
 have L:γ.arcs.getD a default∈γ.arcs:=by rw [<-z];exact Xi v
 obtain⟨B,M,_⟩:=u.arcs _ L;refine aa (n:=24) (rs:=[.tmp 5]) rfl Tryz.e239 rfl rfl rfl (lbt rfl) ?_;simp only [BZ,g.load f I,seval];refine step_ret (ku S.ok (H.keep f g) v) ?_;rintro Q R ⟨N,rfl⟩;replace S:=S.call N;unfold beyB;rw [z];generalize γ.arcs.getD a default=A at B M;simp only [BZ,c7,seval];refine ac aA S ?_;clear S;intro h C S D;simp only [BZ,seval];refine aC (S.store (i:=0) rfl ?_ ?_ rfl rfl ?_ ono) ?_
 . exact(by exact Tryz.t135.2.1)
 . exact(by intro x e;cases e)
 . exact lbt rfl
 clear S;rintro h ⟨S,O⟩;clear O;simp only [LC,ae,lay,Xg,Xh,seval]at S;have l:=g.grk K S.gr;obtain⟨b,T,rfl,r,s,_,_⟩:=(x.keep f l).at0;have E:=r.load1 (o:=0) rfl;have U:=x.len;obtain⟨d,o,F,t⟩:=s.ix (kd:=.i64) (bO .i64) (i:=A.s) (by omega);have P:m[A.s]'(by omega)=(c A.s:Int):=by rw [<-x.val A.s B,Xf,Xc (by omega)];rfl
 rw [P]at t;simp only [encI]at t;simp only [BZ,seval];refine ao (av rfl) (q:=0) (ps:=[]) (by kernel_rfl) ?_;by_cases G:c A.s=k
 . have j:(c A.s:Int)=(k:Int):=(by omega);simp only [BZ,cls,ab,l.load f w,l.load f y,E,F,t,j,S.ld (b:=C) (o:=0) m0 rfl,seval];exact⟨by rw [decide_eq_true G];rfl,S.gr⟩
 . have j: ¬(c A.s:Int)=(k:Int):=(by omega);simp only [BZ,cls,ab,l.load f w,l.load f y,E,F,t,j,S.ld (b:=C) (o:=0) m0 rfl,seval];exact⟨by rw [decide_eq_false G];rfl,S.gr⟩
def borB(γ:Gra)(c:Nat->Nat)(k v:Nat):Bool:=decide (c v=k)&&(outs γ.arcs Arc.t γ.arcs.length v).any (beyB γ c k)
theorem Et(f:OZ hq)(j:Good γ)(A:aS hq nb (ptrTo bp) γ)(x:gG hq mb p γ.nodes m c)(B:hq.load b1 0 1=some [p])(C:hq.load b2 0 1=some [.int .i64 (k:Nat)])(D:hq.load b3 0 1=some [ptrTo bp])(l4:hq.load b4 0 1=some [.func (.func 239) #[] #[ptrTo b3,ptrTo b1,ptrTo b2]]):
 HoldP zM hq 241 [ptrTo b1,ptrTo b2,ptrTo b3,ptrTo b4] γ.nodes (borB γ c k):=by
 intro h l g E v F;have S:=Si l;obtain⟨b,vm,rfl,r,s,_,_⟩:=(x.keep f g).at0;have G:=r.load1 (o:=0) rfl;have hl:=x.len;obtain⟨d,o,H,w⟩:=s.ix (kd:=.i64) (bO .i64) (i:=v) (by omega);have ev:m[v]'(by omega)=(c v:Int):=by rw [<-x.val v F,Xf,Xc (by omega)];rfl
 rw [ev]at w;replace w:h.load d o 1=some [.int .i64 (c v:Nat)]:=w;have y:=g.load f B;have z:=g.load f C;have I:=g.load f D;have J:=g.load f l4;have K:=bA l y;have L:=bA l z;have M:=bA l I;have N:=bA l J;have O:=r.lt l;have P:=bA l w;unfold borB;by_cases Q:c v=k
 . have t:(c v:Int)=(k:Int):=(by omega);refine aa (n:=23) (rs:=[.tmp 6]) rfl Tryz.e241 rfl rfl rfl (lbt rfl) ?_;simp only [BZ];refine ao (av rfl) (q:=0) (ps:=[(12,13)]) (by kernel_rfl) ?_;simp only [BZ,cls,y,z,I,G,H,w,t,seval];refine bU (wS S.ok (A.keep f g) (by have:=j.many;omega) F) ?_;rintro vl h2 ⟨e,sl,_⟩;have R:=am e K;have T:=am e L;have U:=am e M;have V:=am e N;have W:=am e O;have X:=am e P;replace S:=S.call e;simp only [BZ,cls,e.load J,seval];refine bz (Cb S.ok (g.grk E e) (Xj E e.n) sl (by have:=j.many;have:=kI γ.arcs Arc.t γ.arcs.length v;omega) (fun a ha=>(mg.1 ha).1) (post:=#[ptrTo b3,ptrTo b1,ptrTo b2]) (beyond_ok f j A x D B C)) ?_;intro h3 u;have Y:=am u (Xa K e.n);have Z:=am u (Xa L e.n);have w3:=am u (Xa M e.n);have w4:=am u (Xa N e.n);have wb:=am u (Xa O e.n);have wd:=am u (Xa P e.n);replace S:=S.call u;simp only [BZ,cls,ab,seval];refine⟨by simp only [aJ,aR,aH,aT,aI,ne_eq,not_false_eq_true,aY,bC,aQ,aN,bF,bW,aD,Xb,ah,cG,dr,au R,au T,au U,au V,au W,au X,ar R,ar T,ar U,ar V,ar W,ar X,au Y,au Z,au w3,au w4,au wb,au wd,ar Y,ar Z,ar w3,ar w4,ar wb,ar wd,seval],?_⟩;exact⟨by rw [decide_eq_true Q,Bool.true_and],S.gr⟩
 . have t: ¬(c v:Int)=(k:Int):=(by omega);refine aa (n:=23) (rs:=[.tmp 6]) rfl Tryz.e241 rfl rfl rfl (lbt rfl) ?_;simp only [BZ];refine ao (av rfl) (q:=0) (ps:=[(12,13)]) (by kernel_rfl) ?_;simp only [BZ,cls,ab,y,z,G,H,w,t,seval];refine⟨by simp only [aJ,aR,aH,aT,aI,ne_eq,not_false_eq_true,aY,bC,aQ,aN,bF,bW,aD,Xb,ah,cG,dr,j9,pairN,seval],?_⟩;exact⟨by rw [decide_eq_false Q,Bool.false_and],S.gr⟩
end
theorem cnodes_ok(d:OZ h0){c:Value}(e:Fl p)(f:Fl c):Ret zM 240 [p,c] h0 fun v h'=>Gr h0 h'/\ ∃b1 b2,v=.func (.func 264) #[] #[ptrTo b1,ptrTo b2]/\h0.n<=b1/\h0.n<=b2/\h'.load b1 0 1=some [p]/\h'.load b2 0 1=some [c]:=by have S:=Si d;refine aa (n:=6) (rs:=[.tmp 4]) rfl Tryz.e240 rfl rfl rfl (lbt rfl) ?_;simp only [BZ,seval];refine ac (bJ (by assumption)) S ?_;clear S;intro h b1 S a;simp only [BZ,if_false,seval];refine ac (bJ (by assumption)) S ?_;clear S;intro h b2 S b;simp only [BZ,ab,seval];exact⟨S.gr,b1,b2,rfl,a,b,S.ld m1 rfl,S.ld m0 rfl⟩
theorem cnodes_it  (l:OZ hq) (j:OZ h0) (B:eZ hq h0) (q:hq.n<=h0.n)   {m:List Int}  (x:gG hq H p N m c) (S:N<=1000)   {post:Array Value}  (hf:HoldP zM hq g post.toList N f)
 (I:h0.load b1 0 1=some [p]) (K:h0.load b2 0 1=some [.func (.func g) #[] post]):
 mJ zM 264 [] [ptrTo b1,ptrTo b2] h0 (fun c=>c=b1\/c=b2\/c<hq.n) (((zO N).filter f).map fun(v:Nat)=>[.int .i64 (v:Nat)]):=by
 intro L J Z M Y h F s d;have C:=s.load j I (.inl rfl);obtain⟨b,T,rfl,r,D,_,_⟩:=(x.keep l (s.keep B q (fun c t=>.inr (.inr t)))).at0;have E:=r.load1 (o:=0) rfl;have U:=x.len;have u:(m.length:Int)=(N:Int):=by omega
 refine enter (n:=25) (rs:=[]) rfl Tryz.e264 rfl rfl rfl (lbt rfl) ?_;simp only [BZ,C,E,D.lenq,u,seval];refine aW (fun(i:Nat) e h=>i<=N/\ ∃F,ItS h0 (fun c=>c=b1\/c=b2\/c<hq.n) h F/\J ((zO i).filter f).length h F/\e 0=.func (.yield L) #[] #[]/\e 1=ptrTo b1/\e 2=ptrTo b2/\e 11=.int .i64 (N:Nat)/\e 12=.int .i64 i) (fun i=>N-i) ?_ 0 _ _ ?_
 . clear C s d F r D E h;intro i G e h ⟨hi,F,s,d,r0,r1,r2,r11,r12⟩;have w:an .i64 ((i:Int)+1)=((i+1:Nat):Int):=(by rw [wrap64]<;>omega);by_cases hlt:i<N
   . have O:=s.load j K (.inr (.inl rfl));simp only [BZ,r2,r11,r12,aF,hlt,O,seval];refine ag (hf _ s.ok (s.keep B q (fun c t=>.inr (.inr t))) (Xj q s.n) i hlt) ?_;intro V k;cases y:f i with
     | true=>
       have P:(((zO N).filter f).map fun(v:Nat)=>[Value.int .i64 (v:Nat)])[((zO i).filter f).length]? =some [.int .i64 (i:Nat)]:=(by rw [Xm,sU y _ hlt];rfl);have z:((zO (i+1)).filter f).length=((zO i).filter f).length+1:=(by rw [jc,if_pos y];simp);simp only [BZ,r0,seval];refine dg Y (s.gr k) (Y.gr _ _ _ _ d k) (i:=((zO i).filter f).length) P ?_ ?_ ?_
       . intro A Q a R _ _;simp only [BZ,r12,w,seval];exact G (i+1) _ _ (by omega) ⟨by omega,Q,R,by rw [z];exact a,by simp [aB,r0,r1,ah,r2,r11]⟩
       . intro A a _;simp only [BZ,seval];exact ie rfl ⟨rfl,.inr (.inl ⟨_,rfl,a⟩)⟩
       . intro v A a;exact absurd a (M v A)
     | false=>have z:(zO (i+1)).filter f=(zO i).filter f:=(by rw [jc,if_neg (by rw [y];decide)];simp);simp only [BZ,r12,w,seval];exact G (i+1) _ _ (by omega) ⟨by omega,F,s.gr k,by rw [z];exact Y.gr _ _ _ _ d k,by simp [aB,r0,r1,ah,r2,r11]⟩
   . simp only [BZ,r11,r12,aF,hlt,seval];have:i=N:=(by omega);subst this;exact cy (cd ⟨rfl,_,rfl,rfl,.inl ⟨_,F,rfl,by simpa using d⟩⟩)
 . exact⟨Xk _,F,s,d,by simp [aB,dh,ah]⟩
theorem border_ok(z:OZ h0){a:Gra}{R T:Nat}{m:List Int}(j:Good a)(F:aS h0 R (ptrTo E) a)(x:gG h0 T p a.nodes m c):
 Ret zM 185 [p,ptrTo E,.int .i64 (k:Nat)] h0 fun r h'=>Gr h0 h'/\az h' 1 bK r ((zO a.nodes).filter (borB a c k))/\ ∀c,aq r c->h0.n<=c:=by
 have S:=Si z;have fp:Fl p:=by obtain⟨b,_,rfl,_⟩:=x.at0;exact bD
 obtain⟨bc,U,rfl,r,s,_,_⟩:=x.at0;have V:=r.load1 (o:=0) rfl;have W:=x.len;have X:=j.n1;have n2:=j.n2;have A:(m.length:Int)=(a.nodes:Int):=by omega
 obtain⟨G,ov,sv,cv,Y⟩: ∃d o s c,U=.slice (some ⟨d,o,s⟩) m.length c:=by
  rcases s with⟨_,e⟩|⟨d,o,s,c,e,_⟩
  . subst e;simp at W;omega
  . exact⟨d,o,s,c,e⟩
 subst Y;have B:G<h0.n:=s.lt z (b:=G) rfl;refine aa (n:=29) (rs:=[.tmp 6]) rfl Tryz.e185 rfl rfl rfl (lbt rfl) ?_;simp only [BZ,seval];refine ac (bJ (by exact bD)) S ?_;clear S;intro h l S H;simp only [BZ,if_false,seval];refine ac (bJ (by exact bD)) S ?_;clear S;intro h u S I;simp only [BZ,if_false,seval];refine ac (bJ (by exact aZ)) S ?_;clear S;intro h J S K;have Z:=(S.row (b:=l) m2).lt S.ok;have z4:=(S.row (b:=u) m1).lt S.ok;have zc:=Xa (r.lt z) S.gr.n;have zd:=Xa B S.gr.n;have C:=S.gr.load V;have s':=s.gr S.gr;simp only [BZ];refine ao (av rfl) (q:=0) (ps:=[(8,13),(8,12),(8,9)]) (by kernel_rfl) ?_;simp only [BZ,cls,S.ld (b:=l) (o:=0) m2 rfl,S.ld (b:=u) (o:=0) m1 rfl,seval];refine bz (bM S.ok (F.gr S.gr)) ?_;intro h1 t;have L:=am t Z;have M:=am t z4;have N:=am t zc;have O:=am t zd;have w:=t.load C;replace S:=S.call t;simp only [BZ,cls,w,s'.lenq,A,S.ld (b:=l) (o:=0) m2 rfl,S.ld (b:=u) (o:=0) m1 rfl,seval];refine⟨by simp only [aJ,aR,aH,aT,aI,ne_eq,not_false_eq_true,aY,bC,aQ,aN,bF,bW,aD,Xb,ah,tF,au L,au M,au N,ar L,ar M,ar N,au O,ar O,seval],?_⟩;refine ac aA S ?_;clear S;intro h P S Q;simp only [BZ,seval];refine aC (aE S (i:=0) rfl Tryz.t124.2.1 dY (Xe (lbt rfl)) ono) ?_;clear S;rintro h2 ⟨S,_⟩;simp only [LC]at S;simp only [BZ,S.ld (b:=l) (o:=0) m3 rfl,seval];have D:=S.gr;have y:=S.ok;have l3:=S.ld (b:=l) (o:=0) m3 rfl;have l4:=S.ld (b:=u) (o:=0) m2 rfl;have l5:=S.ld (b:=J) (o:=0) m1 rfl;have l7:=S.ld (b:=P) (o:=0) m0 rfl;have hf:=Et y j (F.gr D) (x.gr D) l3 l5 l4 l7;refine step_ret (cnodes_ok S.ok bD dY) ?_;rintro v h4 ⟨g,b1,b2,rfl,X,ad,y1,y2⟩;have it:=cnodes_it y g.ok g.keep g.n (x.gr D) (by omega) (g:=241) (post:=#[ptrTo l,ptrTo J,ptrTo u,ptrTo P]) hf y1 y2;replace S:=S.call g;simp only [BZ,seval];refine step_ret (sb S.ok (g:=264) (post:=#[ptrTo b1,ptrTo b2]) (iter_w it) (fun _ h=>h.elim) (by have:=sJ (n:=a.nodes) (f:=borB a c k);omega)) ?_;rintro r h5 ⟨f5,G5,d5⟩;have g5:=f5.gr;have k5:=S.fr.n;replace S:=S.call g5;simp only [BZ,ab,seval];exact⟨S.gr,G5.sl rfl dC (by decide),fun c hc=>by have:=d5 c hc;omega⟩
theorem DD(d:OZ h0){a:Gra}{e c:Nat}(f:aS h0 e (ptrTo c) a)(j:b<a.nodes):aO zM 265 [ptrTo c,.int .i64 (b:Nat)] h0 (.bool true):=by
 have S:=Si d;have g:(0:Int)<=(b:Int):=by omega
 have h:(b:Int)<(a.nodes:Int):=by omega
 refine aa (n:=17) (rs:=[.tmp 4]) rfl Tryz.e265 rfl rfl rfl (lbt rfl) ?_;simp only [BZ,g,seval];refine ag (bM S.ok f) ?_;intro k i;simp only [BZ,ab,h,seval];exact i
noncomputable def lI(c:Gra)(b a:Nat):Bool:=decide (dOf (seen c.arcs Arc.t Arc.s) b (c.arcs.getD a default).s<FAR/\dOf (seen c.arcs Arc.t Arc.s) b (c.arcs.getD a default).t<FAR/\dOf (seen c.arcs Arc.t Arc.s) b (c.arcs.getD a default).s=(c.arcs.getD a default).w+dOf (seen c.arcs Arc.t Arc.s) b (c.arcs.getD a default).t)
def HoldA(E:Env)(hq:Hp)(x:Nat)(g:FuncId)(post:List Value)(N:Nat)(f:Nat->Bool):Prop:= ∀h,OZ h->(∀b,b<hq.n->b≠x->h.get b=hq.get b)->hq.n<=h.n-> ∀v,v<N->aO E g ([.int .i64 (v:Nat)]++post) h (.bool (f v))
theorem nQ{l:List Value}(e:h.load b o n=some l)(g:h'.get b=h.get b):h'.load b o n=some l:=by unfold Hp.load at e⊢;rw [g];exact e
theorem sl_get{a:Type}{enc:a->List Value}{xs:List a}(s:az h k enc v xs)(g: ∀c,aq v c->h'.get c=h.get c):az h' k enc v xs:=by
 rcases s with s|⟨b,o,s,c,d,e,f⟩
 . exact .inl s
 . exact .inr ⟨b,o,s,c,d,e,nQ f (g b (by rw [d];rfl))⟩
theorem tells1_ok{g:Hp}(B:OZ g)(j:OZ hq)(V:eZ g hq)(K:g.n<=hq.n)(hx:g.n<=x){f:Gra}(C:Good f){W L:Nat}(X:aS g W (ptrTo L) f)(x2:b2≠x)(Y:b5≠x)(M: ∀v,IsD (seen f.arcs Arc.t Arc.s) b v (dOf (seen f.arcs Arc.t Arc.s) b v)){z vA vO:Value}(N:hq.load b2 0 1=some [ptrTo L])(O:hq.load b5 0 1=some [z])(P:az hq 1 bK z ((zO f.nodes).map (dOf (seen f.arcs Arc.t Arc.s) b)))(Z: ∀c,aq z c->c≠x):
 HoldA zM hq x 279 [ptrTo b2,ptrTo b5] f.arcs.length (lI f b):=by
 intro h ok k nq a D;have kN:eZ g h:=fun c r=>(k c (Xa r K) (by omega)).trans (V c r);have nN:g.n<=h.n:=Xj K nq;have e2:=nQ N (k b2 (bA j N) x2);have e5:=nQ O (k b5 (bA j O) Y);have s:az h 1 bK z _:=sl_get P (fun c r=>k c (P.lt j r) (Z c r));have S:=Si ok;have Q:f.arcs[a]=f.arcs.getD a default:=by simp [Xf,D]
 have hm:f.arcs.getD a default∈f.arcs:=by rw [<-Q];exact Xi D
 obtain⟨hs,ht,hw⟩:=C.arcs _ hm;unfold lI;have E:=M (f.arcs.getD a default).s;have F:=M (f.arcs.getD a default).t;generalize hd:dOf (seen f.arcs Arc.t Arc.s) b=d at E F s;refine aa (n:=35) (rs:=[.tmp 4]) rfl Tryz.e279 rfl rfl rfl (lbt rfl) ?_;simp only [BZ,e2,seval];refine step_ret (ku S.ok (X.keep B kN) D) ?_;rintro rv h4 ⟨g4,rfl⟩;replace S:=S.call g4;rw [Q];generalize f.arcs.getD a default=A at hs ht hw E F;simp only [BZ,c7,seval];refine ac aA S ?_;clear S;intro h t S R;simp only [BZ,seval];refine aC (S.store (i:=0) rfl ?_ ?_ rfl rfl ?_ ono) ?_
 . exact(by exact Tryz.t135.2.1)
 . exact(by intro x e;cases e)
 . exact lbt rfl
 clear S;rintro h ⟨S,mo⟩;clear mo;simp only [LC,ae,lay,Xg,Xh,seval]at S;have u:=s.gr S.gr;have lD:((zO f.nodes).map d).length=f.nodes:=by simp
 obtain⟨c1,o1,x1,G⟩:=u.ix (kd:=.i64) dC (i:=A.t) (by omega);obtain⟨c2,o2,x2,T⟩:=u.ix (kd:=.i64) dC (i:=A.s) (by omega);simp only [List.getElem_map,List.getElem_range,bK]at G T;have H:=S.gr.load e5;have z6:=(S.row (b:=t) m0).lt S.ok;have z5:=bA S.ok H;have zc:=bA S.ok G;simp only [BZ,seval];refine ao (av rfl) (q:=0) (ps:=[]) (by kernel_rfl) ?_;simp only [BZ,cls,H,x1,G,S.ld (b:=t) (o:=1) m0 rfl,S.ld (b:=t) (o:=2) m0 rfl,seval];refine bz (add_ok S.ok) ?_;intro h7 p;have v6:=am p z6;have v5:=am p z5;have vc:=am p zc;replace S:=S.call p;simp only [BZ,cls,seval];have ad:=gQ;have b1:=E.le;have b2:=F.le;have I:wy (wy (wy (d A.t:Nat))+wy (A.w:Nat))=(if d A.t+A.w<FAR then((d A.t+A.w:Nat):Int)else(FAR:Int)):=by
  unfold wy
  repeat' split
  all_goals omega
 rw [I];have w:=p.load H;have y:=p.load T;by_cases hf:d A.t+A.w<FAR
 . rw [if_pos hf];have w1:wy ((d A.t+A.w:Nat):Int)<72057594037927936:=(by unfold wy;omega);have J:decide (wy ((d A.t+A.w:Nat):Int)<72057594037927936)=true:=decide_eq_true w1;refine ag (nZ S.ok) ?_;intro h8 l;replace S:=S.call l;rw [J];by_cases U:d A.s=A.w+d A.t
   . have m:((d A.t+A.w:Nat):Int)=(d A.s:Int):=(by omega);simp only [BZ,ab,l.load w,x2,l.load y,m,S.ld (b:=t) (o:=0) m0 rfl,seval];exact⟨by rw [decide_eq_true ⟨by omega,by omega,U⟩],S.gr⟩
   . have m: ¬((d A.t+A.w:Nat):Int)=(d A.s:Int):=(by omega);simp only [BZ,ab,l.load w,x2,l.load y,m,S.ld (b:=t) (o:=0) m0 rfl,seval];exact⟨by rw [decide_eq_false (fun h=>U h.2.2)],S.gr⟩
 . rw [if_neg hf];have J:decide (wy (FAR:Int)<72057594037927936)=false:=decide_eq_false (by unfold wy;omega);refine ag (nZ S.ok) ?_;intro h8 l;replace S:=S.call l;rw [J];simp only [BZ,ab,seval];exact⟨by rw [decide_eq_false (fun h=>by omega)],S.gr⟩
theorem tells_ok{a:Hp}(k:OZ a)(A:OZ h0)(q:Gr a h0)(B:a.n<=x)(C:x<h0.n)(f:Good d)(t:aS a E (ptrTo s) d)(F:b<d.nodes):
 Ret zM 268 [ptrTo s,.int .i64 (b:Nat)] h0 fun r h'=>Gr h0 h'/\ ∃b2 b5,r=.func (.func 279) #[] #[ptrTo b2,ptrTo b5]/\h0.n<=b2/\h0.n<=b5/\HoldA zM h' x 279 [ptrTo b2,ptrTo b5] d.arcs.length (lI d b):=by
 have S:=Si A;refine aa (n:=10) (rs:=[.tmp 4]) rfl Tryz.e268 rfl rfl rfl (lbt rfl) ?_;simp only [BZ,seval];refine ac (aV (by intro x e;cases e)) S ?_;clear S;intro h b2 S g;simp only [ae]at S;simp only [BZ,S.ld (b:=b2) (o:=0) m0 rfl,seval];refine step_ret (tG S.ok f (t.gr (q.trans S.gr)) F) ?_;rintro r Q ⟨G,R,vA,vO,D,T,O,rfl,l,H,I,_,u,J,_⟩;have U:=S.fr.n;replace S:=S.call G;have K:=l.fl;have L:=H.fl;have M:=I.fl;have w:D=dOf (seen d.arcs Arc.t Arc.s) b:=funext fun v=>((yU (u v)).1).symm;have m: ∀v,IsD (seen d.arcs Arc.t Arc.s) b v (dOf (seen d.arcs Arc.t Arc.s) b v):=fun v=>by rw [<-w];exact u v
 rw [w]at l;simp only [BZ];have N:=S.row (b:=b2) m0;have V:=S.fr.n;have j:=S.gr;have p:=S.ok;clear S;have S:=Si p;refine ac aA S ?_;clear S;intro h b5 S y;simp only [BZ,seval];refine aC (S.store (i:=0) rfl Tryz.t245.2.1 (by intro x e;cases e) rfl (by simp only [ae,Xr,Xs,K.2.1,L.2.1,M.2.1,Xb]) (lbt rfl) ono) ?_;clear S;rintro W ⟨S,_⟩;simp only [LC,ae,lay,Xg,Xh,seval]at S;simp only [BZ,ab,seval];refine⟨j.trans S.gr,b2,b5,rfl,g,by omega,?_⟩;have z:=q.trans (j.trans S.gr);exact tells1_ok k S.ok z.keep z.n B f t (by omega) (by omega) m (vA:=vA) (vO:=vO) ((N.gr S.gr).load1 (o:=0) rfl) (S.ld (b:=b5) (o:=0) m0 rfl) (l.gr S.gr) (fun c P e=>by have:=J c (.inl P);omega)
theorem marked_ok(d:OZ h0){c:Value}(e:Fl c):Ret zM 267 [.int .i64 (n:Nat),c] h0 fun v h'=>Gr h0 h'/\ ∃b1 b2,v=.func (.func 278) #[] #[ptrTo b1,ptrTo b2]/\h0.n<=b1/\h0.n<=b2/\h'.load b1 0 1=some [.int .i64 (n:Nat)]/\h'.load b2 0 1=some [c]:=by have S:=Si d;refine aa (n:=6) (rs:=[.tmp 4]) rfl Tryz.e267 rfl rfl rfl (lbt rfl) ?_;simp only [BZ,seval];refine ac (bJ (by exact aZ)) S ?_;clear S;intro h b1 S a;simp only [BZ,if_false,seval];refine ac (bJ (by assumption)) S ?_;clear S;intro h b2 S b;simp only [BZ,ab,seval];exact⟨S.gr,b1,b2,rfl,a,b,S.ld m1 rfl,S.ld m0 rfl⟩
theorem marked_it  (u:OZ hq) (e:OZ h0) (y:eZ hq h0) (q:hq.n<=h0.n)   (H:N<=1000)   {post:Array Value}  (hf:HoldA zM hq x g post.toList N f)
 (z:h0.load b1 0 1=some [.int .i64 (N:Nat)]) (A:h0.load b2 0 1=some [.func (.func g) #[] post]):
 mJ zM 278 [] [ptrTo b1,ptrTo b2] h0 (fun c=>c=b1\/c=b2\/(c<hq.n/\c≠x)) (((zO N).filter f).map fun(v:Nat)=>[.int .i64 (v:Nat)]):=by
 intro B J Z C Y h F s b;have r:=s.load e z (.inl rfl);refine enter (n:=19) (rs:=[]) rfl Tryz.e278 rfl rfl rfl (lbt rfl) ?_;simp only [BZ,r,seval];refine aW (fun(i:Nat) d h=>i<=N/\ ∃F,ItS h0 (fun c=>c=b1\/c=b2\/(c<hq.n/\c≠x)) h F/\J ((zO i).filter f).length h F/\d 0=.func (.yield B) #[] #[]/\d 1=ptrTo b1/\d 2=ptrTo b2/\d 5=.int .i64 (N:Nat)/\d 6=.int .i64 i) (fun i=>N-i) ?_ 0 _ _ ?_
 . clear r s b F h;intro i t d h ⟨hi,F,s,b,r0,r1,r2,r5,r6⟩;have w:an .i64 ((i:Int)+1)=((i+1:Nat):Int):=(by rw [wrap64]<;>omega);by_cases hlt:i<N
   . have D:=s.load e A (.inr (.inl rfl));simp only [BZ,r2,r5,r6,aF,hlt,D,seval];refine ag (hf _ s.ok (fun c k l=>(s.data c (Xa k q) (.inr (.inr ⟨k,l⟩))).trans (y c k)) (Xj q s.n) i hlt) ?_;intro I j;cases m:f i with
     | true=>
       have l:(((zO N).filter f).map fun(v:Nat)=>[Value.int .i64 (v:Nat)])[((zO i).filter f).length]? =some [.int .i64 (i:Nat)]:=(by rw [Xm,sU m _ hlt];rfl);have o:((zO (i+1)).filter f).length=((zO i).filter f).length+1:=(by rw [jc,if_pos m];simp);simp only [BZ,r0,seval];refine dg Y (s.gr j) (Y.gr _ _ _ _ b j) (i:=((zO i).filter f).length) l ?_ ?_ ?_
       . intro p E a G _ _;simp only [BZ,r6,w,seval];exact t (i+1) _ _ (by omega) ⟨by omega,E,G,by rw [o];exact a,by simp [aB,r0,r1,ah,r2,r5]⟩
       . intro p a _;simp only [BZ,seval];exact ie rfl ⟨rfl,.inr (.inl ⟨_,rfl,a⟩)⟩
       . intro v p a;exact absurd a (C v p)
     | false=>have o:(zO (i+1)).filter f=(zO i).filter f:=(by rw [jc,if_neg (by rw [m];decide)];simp);simp only [BZ,r6,w,seval];exact t (i+1) _ _ (by omega) ⟨by omega,F,s.gr j,by rw [o];exact Y.gr _ _ _ _ b j,by simp [aB,r0,r1,ah,r2,r5]⟩
   . simp only [BZ,r5,r6,aF,hlt,seval];have:i=N:=(by omega);subst this;exact cy (cd ⟨rfl,_,rfl,rfl,.inl ⟨_,F,rfl,by simpa using b⟩⟩)
 . exact⟨Xk _,F,s,b,by simp [aB,dh,ah]⟩
def dZ(n:Nat)(f:Nat->Bool):List Value:=(zO n).map fun j=>.bool (f j)
theorem tD:(dZ n f).length=n:=by simp [dZ]
theorem bolC_at(h:j<n):(dZ n f)[j]? =some (.bool (f j)):=lE (F:=fun j=>Value.bool (f j)) h
theorem Cz:(dZ n f).set j (.bool true)=dZ n (fun u=>decide (u=j)||f u):=by have:=kU (N:=n) (k:=j) (F:=fun j=>Value.bool (f j)) (F':=fun u=>Value.bool (decide (u=j)||f u)) (fun i _ a=>by simp [a]);unfold dZ;rw [<-this];simp
theorem mI{g:Nat->Bool}(h: ∀j,j<n->f j=g j):dZ n f=dZ n g:=by unfold dZ;refine List.map_congr_left fun j a=>?_;rw [h j (List.mem_range.1 a)]
theorem putB_ok(C:OZ h0){d:Nat}(R:Row h0 d (dZ n f) 1){post:Array Value}(K:mJ zM g [] post.toList h0 D (xs.map fun(v:Nat)=>[.int .i64 (v:Nat)]))(E: ¬D d)(A: ∀x∈xs,x<n)(hl:xs.length<=1000):
 Ret zM 266 [.slice (some ⟨d,0,none⟩) n n,.func (.func g) #[] post,.bool true] h0 fun r h'=>Mo (· =d) h0 h'/\r=.slice (some ⟨d,0,none⟩) n n/\Row h' d (dZ n (fun u=>decide (u∈xs)||f u)) 1:=by
 have S:=St.init1 C (o:=.row (dZ n f) 1) R;have zl:=R.lt C;refine aa (n:=15) (rs:=[.tmp 6]) rfl Tryz.e266 rfl rfl rfl (lbt rfl) ?_;simp only [BZ,seval];refine ac (bJ (by exact aU)) S ?_;clear S;intro h m S G;simp only [BZ,if_false,seval];refine ac (bJ (by exact og)) S ?_;clear S;intro h t S H;simp only [BZ,if_false,seval];have M:dZ n f=dZ n (fun u=>decide (u∈xs.take 0)||f u):=mI fun j _=>by simp
 refine iz S (g:=g) (a:=#[]) (b:=post) (by simp [bF,aB,ah]) rfl rfl ?_;intro I z w p N O g2;obtain⟨X,J,p⟩: ∃X:fS,X=_/\St (· =d) h0 I [(w,.loop X),(z,.dfr),(t,.row [.bool true] 1),(m,.row [.slice (some ⟨d,0,none⟩) n n] 1),(d,.row (dZ n f) 1)] []:=⟨_,rfl,p⟩;have P:Yld zM w (fun k h' F=>St (· =d) h0 h' [(w,.loop X),(z,.dfr),(t,.row [.bool true] 1),(m,.row [.slice (some ⟨d,0,none⟩) n n] 1),(d,.row (dZ n (fun u=>decide (u∈xs.take k)||f u)) 1)] []/\k<=xs.length/\F=[w,z,t,m,d]) (fun _ _=>False) (xs.map fun(v:Nat)=>[.int .i64 (v:Nat)]):=by
  refine⟨?_,?_,fun _ _ h=>h.elim,?_⟩
  . rintro i h F ⟨S,_,rfl⟩;exact⟨S.ok,fun b l=>S.key_lt (by simpa [keys]using l)⟩
  . rintro i h F h' ⟨S,a,rfl⟩ Q;exact⟨S.call Q,a,rfl⟩
  . rintro i x hR F B ⟨S,a,rfl⟩;have q:i<xs.length:=(by have:=(List.getElem?_eq_some_iff.1 B).1;simpa using this);rw [Xm,Xc q]at B;cases B;have s:=A _ (Xi q);have V:dZ n (fun u=>decide (u∈xs.take (i+1))||f u)=(dZ n (fun u=>decide (u∈xs.take i)||f u)).set xs[i] (.bool true):=(by rw [Cz];refine mI fun j _=>?_;rw [Xd q];simp only [XC,XJ];by_cases W:j=xs[i]<;>by_cases Y:j∈xs.take i<;>simp [W,Y]);rw [V];generalize xs[i]=x at s;subst J;refine iw (S.get m0) (by rw [Tryz.e266];rfl) rfl ?_;have Z:=S;replace S:=S.base;simp only [BZ,seval];refine gC S (i:=0) rfl rfl rfl rfl rfl ?_;clear S;intro h S;simp only [LC]at S;simp only [BZ,s,S.ld (b:=m) (o:=0) m3 rfl,S.ld (b:=t) (o:=0) m2 rfl,seval];refine aC (aE S (i:=4) rfl Tryz.t4.2.2.1 og (by rw [tD];exact s) ono) ?_;clear S;rintro h ⟨S,_⟩;simp only [LC]at S;simp only [BZ];refine dV S (i:=0) rfl ?_;clear S;intro h S;simp only [LC]at S;refine .inl ⟨rfl,_,⟨Z.rebase S,by omega,rfl⟩,?_,fun c hc=>.inl hc⟩;have:=S.fr;simp only [keys,XA,XD,XK,XS]at this;exact this
 refine cK (K w _ _ (fun _ _ h=>h) P I [w,z,t,m,d] ?_ ⟨by rw [<-M];exact p,Xk _,rfl⟩) fun o rc h' y=>jx y ?_
 . have kn:=S.fr.n;refine⟨p.ok,p.fr.n,fun b l hd=>p.fr.get b l (fun e=>E (e▸hd)),fun b l h=>?_,fun b l=>p.key_lt (by simpa [keys]using l)⟩;simp only [Xo,Xl,or_false]at l;rcases l with rfl|rfl|rfl|rfl|rfl
   . omega
   . omega
   . omega
   . omega
   . exact E h.2
 . rintro F ⟨T,_,rfl⟩;rw [Xp,Xn]at T;subst J;refine⟨_,T.get m0,XE,?_⟩;replace T:=T.dead;have S:=T;show Run _ _ _ _ _ _ _ _;simp only [BZ,S.ld (b:=m) (o:=0) m2 rfl,seval];refine dq (ij [z] _ (L:=[(t,_),(m,_),(d,_)]) T.base fun h4 S4=>?_);refine⟨rfl,(dX (by decide)).2 (bS.2 ?_)⟩;have U:=T.rebase S4;exact⟨U.fr,rfl,U.row m2⟩
theorem anyT_ok  (L:OZ h0)  (l:Good d) {M:Nat} {z:Value}  (A:aS h0 M (ptrTo y) d) (G:b<d.nodes) (B:az h0 1 bK z xs) (m:xs=[b]):
 Ret zM 242 [ptrTo y,z] h0 fun r h'=>Gr h0 h'/\ ∃f,r=.slice (some ⟨f,0,none⟩) d.arcs.length d.arcs.length/\Row h' f (dZ d.arcs.length (lI d b)) 1/\h0.n<=f:=by
 have S:=Si L;have H:=l.many;have fL:=B.fl;have hl:xs.length=1:=by rw [m];rfl
 refine aa (n:=32) (rs:=[.tmp 4]) rfl Tryz.e242 rfl rfl rfl (lbt rfl) ?_;simp only [BZ,seval];refine ag (kJ S.ok A) ?_;intro h1 N;replace S:=S.call N;simp only [BZ,seval];have C:=S.gr;have p:=S.ok;clear S;have S:=Si p;rename Hp=>hA;refine ac (lZ (by exact Tryz.t100.1) (by exact Tryz.e4E) (by omega) (by omega)) S ?_;clear S;intro h f S q;have O:bH [Value.bool false] d.arcs.length=dZ d.arcs.length (fun a=>decide (0=1)&&lI d b a):=by rw [px];unfold dZ;simp [List.map_const']
 rw [Xy,O]at S;simp only [BZ,Xy,B.lenq,seval];refine aW (fun(i:Nat) k h=>i<=1/\St NoM hA h [(f,.row (dZ d.arcs.length (fun a=>decide (i=1)&&lI d b a)) 1)] []/\k 0=ptrTo y/\k 5=.slice (some ⟨f,0,none⟩) d.arcs.length d.arcs.length/\k 13=z/\k 14=.int .i64 (xs.length:Nat)/\k 15=.int .i64 i) (fun i=>1-i) ?_ 0 _ _ ?_
 . clear S;intro i P k h ⟨hi,S,r0,r5,r13,r14,r15⟩;have w:an .i64 ((i:Int)+1)=((i+1:Nat):Int):=(by rw [wrap64]<;>omega);have D:=C.trans S.gr;by_cases hlt:i<xs.length
   . have I:i=0:=(by omega);obtain⟨c,o,Q,s⟩:=(B.gr D).ix (kd:=.i64) dC hlt;have R:xs[i]=b:=(by subst m;subst I;rfl);rw [R]at s;replace s:h.load c o 1=some [.int .i64 (b:Nat)]:=s;simp only [BZ,r0,r13,r14,r15,aF,hlt,Q,s,seval];refine ag (DD S.ok (A.gr D) G) ?_;intro h2 T;replace S:=S.call T;have hS:=S.gr;have E:=(S.row (b:=f) m0).lt S.ok;simp only [BZ,r0,r5,seval];refine step_ret (tells_ok p S.ok S.gr (x:=f) q E l (A.gr C) G) ?_;rintro v h3 ⟨J,U,V,rfl,n2,n5,hf⟩;replace S:=S.call J;have F:=S.ok;simp only [BZ,seval];refine step_ret (marked_ok S.ok (n:=d.arcs.length) dY) ?_;rintro v h4 ⟨t,W,X,rfl,n1,n3,Y,Z⟩;have it:=marked_it F t.ok t.keep t.n (x:=f) (by omega) (g:=279) (post:=#[ptrTo U,ptrTo V]) hf Y Z;have kg:=J.n;replace S:=S.call t;simp only [BZ,seval];refine step_ret (putB_ok S.ok (S.row (b:=f) m0) (g:=278) (post:=#[ptrTo W,ptrTo X]) it (fun h=>?_) (fun x hx=>List.mem_range.1 (List.mem_filter.1 hx).1) (Xj sJ (by omega))) ?_
     . rcases h with h|h|h
       . omega
       . omega
       . exact h.2 rfl
     . rintro v h5 ⟨f5,rfl,R5⟩;have K:=S.call1 (i:=0) (o':=.row _ 1) rfl f5 R5;simp only [XL]at K;simp only [BZ,r15,w,seval];refine P (i+1) _ _ (by omega) ⟨by omega,?_,by simp [aB,r0,ah,r13,r14]⟩;have e:dZ d.arcs.length (fun a=>decide (i+1=1)&&lI d b a)=dZ d.arcs.length (fun u=>decide (u∈(zO d.arcs.length).filter (lI d b))||(decide (i=1)&&lI d b u)):=mI fun j hj=>(by subst I;simp [List.mem_filter,hj]);rw [e];exact K
   . have i1:i=1:=(by omega);simp only [BZ,ab,r5,r14,r15,aF,hlt,seval];refine⟨D,f,rfl,?_,by have:=C.n;omega⟩;have e:dZ d.arcs.length (lI d b)=dZ d.arcs.length (fun a=>decide (i=1)&&lI d b a):=mI fun j _=>(by rw [decide_eq_true i1,Bool.true_and]);rw [e];exact S.row m0
 . exact⟨Xk _,S,by simp [aB,dh,ah]⟩
theorem arcsT_ok(i:OZ h0){a:Gra}(d:Good a){f:Nat}(k:aS h0 j (ptrTo f) a)(l:b<a.nodes):
 Ret zM 186 [ptrTo f,.int .i64 (b:Nat)] h0 fun r h'=>Gr h0 h'/\ ∃c,r=.slice (some ⟨c,0,none⟩) a.arcs.length a.arcs.length/\Row h' c (dZ a.arcs.length (lI a b)) 1/\h0.n<=c:=by
 have S:=Si i;refine aa (n:=9) (rs:=[.tmp 4]) rfl Tryz.e186 rfl rfl rfl (lbt rfl) ?_;simp only [BZ,seval];refine ac (ce (by exact Tryz.t41.1) (by exact Tryz.e3E) (by decide) (by rfl)) S ?_;clear S;intro h e S g;simp only [LC,bH,cg,ae,XF,Xx,Xv,XI,seval]at S;simp only [BZ,seval];have m:az h 1 bK (.slice (some ⟨e,0,none⟩) 1 1) [b]:=.inr ⟨e,0,none,1,rfl,Xz _,S.lds (b:=e) (o:=0) (n:=1*1) m0 (lbt rfl)⟩;have q:=S.fr.n;refine step_ret (anyT_ok S.ok d (k.gr S.gr) l m rfl) ?_;rintro r s ⟨p,c,rfl,R,t⟩;replace S:=S.call p;simp only [BZ,ab,seval];exact⟨S.gr,c,rfl,R,by omega⟩
def Own(B:Nat->Prop)(hB h:Hp)(F:List Nat):Prop:=hB.n<=h.n/\ ∀b,B b->b<hB.n/\b∉F/\h.get b=hB.get b
theorem Own.gr{B:Nat->Prop}(o:Own B hB h F)(g:Gr h h'):Own B hB h' F:=
 ⟨Xj o.1 g.n,fun b a=>⟨(o.2 b a).1,(o.2 b a).2.1,(g.get b (Xa (o.2 b a).1 o.1)).trans (o.2 b a).2.2⟩⟩
theorem Own.mo{B:Nat->Prop}{F':List Nat}(o:Own B hB h F)(m:Mo (· ∈F) h h')(d: ∀b∈F',b∈F\/h.n<=b):Own B hB h' F':=
 ⟨Xj o.1 m.n,fun b e=>by
  obtain⟨a,c,f⟩:=o.2 b e;have hlt:=Xa a o.1;exact⟨a,fun g=>(d b g).elim c (fun h=>by omega),(m.get b hlt c).trans f⟩⟩
section
variable{γ:Gra}{nb mb bp k:Nat}{p:Value}{m:List Int}{c:Nat->Nat}
theorem won_ok(r:OZ h0){J:Nat->Hp->List Nat->Prop}{Z:Out->Hp->Prop}{xs:List (List Value)}(t:Good γ)(L: ∀v h,¬Z (.pan v) h)(Y:Yld zM H J Z xs){B:Nat->Prop}(u:B b)(M:hB.load b 0 1=some [.func (.yield H) #[] #[]])(N:D b3)(O:h0.load b3 0 1=some [ptrTo bp])(e: ∀h F,ItS h0 D h F->aS h nb (ptrTo bp) γ)
  {post:Array Value}  (x: ∀h F,ItS h0 D h F->Own B hB h F-> ∀a,a<γ.arcs.length->aO zM g ([.int .i64 (a:Nat)]++post.toList) h (.bool (f a)))  (P: ∀a,a<γ.arcs.length->f a=true->xs[j+((zO a).filter f).length]? =some [.int .i64 (a:Nat)])   (s:ItS h0 D h F) (o:Own B hB h F) (l:J j h F):
 Ret zM 182 [.func (.func g) #[] post,ptrTo b3,ptrTo b] h fun v h'=>(v=.bool true/\ ∃F',ItS h0 D h' F'/\Own B hB h' F'/\J (j+((zO γ.arcs.length).filter f).length) h' F')\/(v=.bool false/\Z (.ret (.bool false)) h'):=by
 have I:=t.many;have Q:=s.load r O N;refine aa (n:=21) (rs:=[.tmp 4]) rfl Tryz.e182 rfl rfl rfl (lbt rfl) ?_;simp only [BZ,Q,seval];refine ag (kJ s.ok (e _ _ s)) ?_;intro T y;simp only [BZ];refine aW (fun(i:Nat) q h=>i<=γ.arcs.length/\ ∃F,ItS h0 D h F/\Own B hB h F/\J (j+((zO i).filter f).length) h F/\q 0=.func (.func g) #[] post/\q 2=ptrTo b/\q 7=.int .i64 (γ.arcs.length:Nat)/\q 8=.int .i64 i) (fun i=>γ.arcs.length-i) ?_ 0 _ _ ?_
 . intro i K q h ⟨hi,F,s,o,l,r0,r2,r7,r8⟩;have w:an .i64 ((i:Int)+1)=((i+1:Nat):Int):=(by rw [wrap64]<;>omega);by_cases hlt:i<γ.arcs.length
   . simp only [BZ,r0,r7,r8,aF,hlt,seval];refine ag (x _ _ s o i hlt) ?_;intro U d;have z:=nQ M ((o.gr d).2 b u).2.2;cases A:f i with
     | true=>
       have C:((zO (i+1)).filter f).length=((zO i).filter f).length+1:=(by rw [jc,if_pos A];simp);simp only [BZ,r2,z,seval];refine dg Y (s.gr d) (Y.gr _ _ _ _ l d) (i:=j+((zO i).filter f).length) (P i hlt A) ?_ ?_ ?_
       . intro E R a S m3 G;simp only [BZ,r8,w,seval];exact K (i+1) _ _ (by omega) ⟨by omega,R,S,(o.gr d).mo m3 G,by rw [C];exact a,by simp [aB,r0,r2,ah,r7]⟩
       . intro E a _;simp only [BZ,ab,seval];exact .inr a
       . intro v E a;exact absurd a (L v E)
     | false=>have C:(zO (i+1)).filter f=(zO i).filter f:=(by rw [jc,if_neg (by rw [A];decide)];simp);simp only [BZ,r8,w,seval];exact K (i+1) _ _ (by omega) ⟨by omega,F,s.gr d,o.gr d,by rw [C];exact Y.gr _ _ _ _ l d,by simp [aB,r0,r2,ah,r7]⟩
   . have:i=γ.arcs.length:=(by omega);subst this;simp only [BZ,ab,r7,r8,aF,hlt,seval];exact .inl ⟨F,s,o,l⟩
 . exact⟨Xk _,F,s.gr y,o.gr y,Y.gr _ _ _ _ l y,by simp [aB,dh,ah]⟩
theorem worth_ok(e:OZ h0)(f:Fl p):Ret zM 98 [ptrTo bp,p,.int .i64 (k:Nat)] h0 fun v h'=>Gr h0 h'/\ ∃b3 b4 b5,v=.func (.func 181) #[] #[ptrTo b3,ptrTo b4,ptrTo b5]/\h0.n<=b3/\h0.n<=b4/\h0.n<=b5/\h'.load b3 0 1=some [ptrTo bp]/\h'.load b4 0 1=some [p]/\h'.load b5 0 1=some [.int .i64 (k:Nat)]:=by have S:=Si e;refine aa (n:=8) (rs:=[.tmp 6]) rfl Tryz.e98 rfl rfl rfl (lbt rfl) ?_;simp only [BZ,seval];refine ac (bJ (by exact bD)) S ?_;clear S;intro h b3 S a;simp only [BZ,if_false,seval];refine ac (bJ (by assumption)) S ?_;clear S;intro h b4 S b;simp only [BZ,if_false,seval];refine ac (bJ (by exact aZ)) S ?_;clear S;intro h b5 S d;simp only [BZ,ab,seval];exact⟨S.gr,b3,b4,b5,rfl,a,b,d,S.ld m2 rfl,S.ld m1 rfl,S.ld m0 rfl⟩
def insB(γ:Gra)(c:Nat->Nat)(k a:Nat):Bool:=decide (c (γ.arcs.getD a default).s=k/\c (γ.arcs.getD a default).t=k)
theorem worth2_ok(d:OZ h)(b:Good γ)(e:aS h nb (ptrTo bp) γ)(x:gG h mb p γ.nodes m c)(f:h.load b3 0 1=some [ptrTo bp])(g:h.load b4 0 1=some [p])(i:h.load b5 0 1=some [.int .i64 (k:Nat)])(j:a<γ.arcs.length):
 aO zM 183 ([.int .i64 (a:Nat)]++[ptrTo b3,ptrTo b4,ptrTo b5]) h (.bool (insB γ c k a)):=by
 refine aa (n:=11) (rs:=[.tmp 5]) rfl Tryz.e183 rfl rfl rfl (lbt rfl) ?_;simp only [BZ,f,g,i,seval];refine ag (inside_ok (N:=0) d b e x j) ?_;intro o l;simp only [BZ,ab,seval];exact⟨rfl,l⟩
theorem worth3_ok(g:OZ h){d:Nat}(i:h.load b 0 1=some [.slice (some ⟨d,0,none⟩) n n])(R:Row h d (dZ n f) 1)(e:a<n):
 aO zM 187 ([.int .i64 (a:Nat)]++[ptrTo b]) h (.bool (f a)):=by
 have S:=Si g;have j:=R.load1 (bolC_at (f:=f) e);have l:(a:Int)<(n:Int):=by omega
 refine aa (n:=14) (rs:=[.tmp 3]) rfl Tryz.e187 rfl rfl rfl (lbt rfl) ?_;simp only [BZ,ab,i,l,e,j,seval];exact S.gr
theorem flat_at{a b:Type}{f:a->List b}{l:List a}{q:Nat}{x:b}(d:j<l.length)(h:(f l[j])[q]? =some x):(l.flatMap f)[((l.take j).flatMap f).length+q]? =some x:=by
 have e:l=l.take j++l[j]::l.drop (j+1):=by rw [<-XN d,List.take_append_drop]
 conv=>lhs;rw [e]
 rw [XT,List.flatMap_cons,Xu (by simp)];have g:=(List.getElem?_eq_some_iff.1 h).1;have i:(Xg j l++l[j]::Xh (j+1) l).take j=l.take j:=by rw [<-e]
 rw [i,XP,Xw g];exact h
noncomputable def rh(γ:Gra)(b:Nat):List Nat:=(zO γ.arcs.length).filter (lI γ b)
noncomputable def fQ(γ:Gra)(c:Nat->Nat)(k:Nat):List Nat:=(zO γ.arcs.length).filter (insB γ c k)++((zO γ.nodes).filter (borB γ c k)).flatMap (rh γ)
theorem worth1_it  (I:OZ hq) (t:OZ h0) (kq:eZ hq h0) (nq:hq.n<=h0.n) (y:Good γ) (hn:aS hq nb (ptrTo bp) γ) (x:gG hq mb p γ.nodes m c)  (K:h0.load b3 0 1=some [ptrTo bp]) (e4:h0.load b4 0 1=some [p]) (e5:h0.load b5 0 1=some [.int .i64 (k:Nat)]):
 mJ zM 181 [] [ptrTo b3,ptrTo b4,ptrTo b5] h0 (fun c=>c=b3\/c=b4\/c=b5\/c<hq.n) ((fQ γ c k).map fun(a:Nat)=>[.int .i64 (a:Nat)]):=by
 intro lb J Z hz Y h F s M;have n2:=y.n2;have fp:Fl p:=by obtain⟨b,_,rfl,_⟩:=x.at0;exact bD
 have kN: ∀h F,ItS h0 (fun c=>c=b3\/c=b4\/c=b5\/c<hq.n) h F->eZ hq h:=fun h F s=>s.keep kq nq (fun c V=>.inr (.inr (.inr V)));have u: ∀h F,ItS h0 (fun c=>c=b3\/c=b4\/c=b5\/c<hq.n) h F->aS h nb (ptrTo bp) γ:=fun h F s=>hn.keep I (kN h F s);have A: ∀h F,ItS h0 (fun c=>c=b3\/c=b4\/c=b5\/c<hq.n) h F->gG h mb p γ.nodes m c:=fun h F s=>x.keep I (kN h F s);have W: ∀a,a<γ.arcs.length->insB γ c k a=true->((fQ γ c k).map fun(a:Nat)=>[Value.int .i64 (a:Nat)])[0+((zO a).filter (insB γ c k)).length]? =some [.int .i64 (a:Nat)]:=fun a D q=>by have P:=sU q _ D;unfold fQ;rw [Xx,Xm,Xw (List.getElem?_eq_some_iff.1 P).1,P];rfl
 have S:=Si s.ok;refine enter (n:=31) (rs:=[]) rfl Tryz.e181 rfl rfl rfl (lbt rfl) ?_;simp only [BZ,seval];refine ac (bJ (by exact dY)) S ?_;clear S;intro h l S X;have s1:=s.gr S.gr;have j1:=Y.gr _ _ _ _ M S.gr;have zy:=(S.row (b:=l) m0).lt S.ok;have ly:=S.ld (b:=l) (o:=0) m0 rfl;have o1:Own (· =l) _ _ F:=⟨Xz _,fun b q=>⟨by subst q;exact zy,fun C=>by subst q;have:=s.lt _ C;omega,rfl⟩⟩;simp only [BZ,seval];refine step_ret (won_ok t y hz Y (B:=(· =l)) rfl ly (.inl rfl) K u (g:=183) (post:=#[ptrTo b3,ptrTo b4,ptrTo b5]) (f:=insB γ c k) (fun h F s _ a D=>worth2_ok s.ok y (u _ _ s) (A _ _ s) (s.load t K (.inl rfl)) (s.load t e4 (.inr (.inl rfl))) (s.load t e5 (.inr (.inr (.inl rfl)))) D) W s1 o1 j1) ?_;rintro v h2 (⟨rfl,F2,z,o2,j2⟩|⟨rfl,z2⟩)
 . simp only [BZ,z.load t K (.inl rfl),z.load t e4 (.inr (.inl rfl)),z.load t e5 (.inr (.inr (.inl rfl))),seval];refine step_ret (border_ok z.ok y (u _ _ z) (A _ _ z) (k:=k)) ?_;rintro G hB ⟨gB,Q,nB⟩;have sA:=z.gr gB;have jA:=Y.gr _ _ _ _ j2 gB;have R:=o2.gr gB;have lB:hB.load l 0 1=some [.func (.yield lb) #[] #[]]:=nQ ly (R.2 l rfl).2.2;have ad:l<hB.n:=Xa zy R.1;have oB:Own (fun c=>c=l\/aq G c) hB hB F2:=⟨Xz _,fun b q=>⟨q.elim (fun e=>by subst e;exact ad) (fun h=>Q.lt sA.ok h),fun C=>q.elim (fun e=>(R.2 b e).2.1 C) (fun h=>by have:=nB b h;have:=z.lt b C;omega),rfl⟩⟩;generalize T:(zO γ.nodes).filter (borB γ c k)=L at Q;have af: ∀b∈L,b<γ.nodes:=fun b q=>(by rw [<-T]at q;exact List.mem_range.1 (List.mem_filter.1 q).1);have ak:L.length<=γ.nodes:=(by rw [<-T];exact sJ);simp only [BZ,Q.lenq,seval];refine aW (fun(j:Nat) H h=>j<=L.length/\ ∃F,ItS h0 (fun c=>c=b3\/c=b4\/c=b5\/c<hq.n) h F/\Own (fun c=>c=l\/aq G c) hB h F/\J (((zO γ.arcs.length).filter (insB γ c k)).length+((L.take j).flatMap (rh γ)).length) h F/\H 1=ptrTo b3/\H 5=.func (.func 182) #[] #[ptrTo b3,ptrTo l]/\H 17=G/\H 18=.int .i64 (L.length:Nat)/\H 19=.int .i64 j) (fun j=>L.length-j) ?_ 0 _ _ ?_
   . clear S s1 j1 o1 z j2 o2 sA jA R oB;intro j ih H h ⟨hj',F,s,o,M,r1,r5,r17,r18,r19⟩;have w:an .i64 ((j:Int)+1)=((j+1:Nat):Int):=(by rw [wrap64]<;>omega);by_cases hlt:j<L.length
     . have q:=af _ (Xi hlt);have sl:az h 1 bK G L:=sl_get Q (fun c V=>(o.2 c (.inr V)).2.2);obtain⟨d,oo,x0,U⟩:=sl.ix (kd:=.i64) dC hlt;have N: ∀a,a<γ.arcs.length->lI γ L[j] a=true->((fQ γ c k).map fun(a:Nat)=>[Value.int .i64 (a:Nat)])[((zO γ.arcs.length).filter (insB γ c k)).length+((L.take j).flatMap (rh γ)).length+((zO a).filter (lI γ L[j])).length]? =some [.int .i64 (a:Nat)]:=fun a D q=>(by have P:(rh γ L[j])[((zO a).filter (lI γ L[j])).length]? =some a:=sU q _ D;unfold fQ;rw [T,Xm,Nat.add_assoc,Xu (by omega),XP,flat_at hlt P];rfl);have tk:((L.take (j+1)).flatMap (rh γ)).length=((L.take j).flatMap (rh γ)).length+((zO γ.arcs.length).filter (lI γ L[j])).length:=(by rw [Xd hlt,XT,List.length_append];simp [rh]);generalize L[j]=b at q U N tk;replace U:h.load d oo 1=some [.int .i64 (b:Nat)]:=U;simp only [BZ,r1,r17,r18,r19,aF,hlt,x0,U,s.load t K (.inl rfl),seval];refine step_ret (arcsT_ok s.ok y (u _ _ s) q) ?_;rintro r h4 ⟨g4,bl,rfl,R4,nl⟩;have S:=Si g4.ok;simp only [BZ];refine ac aA S ?_;clear S;intro h O S ai;simp only [BZ,seval];refine aC (aE S (i:=0) rfl Tryz.t100.2.2.1 aU (Xe (lbt rfl)) ono) ?_;clear S;rintro h5 ⟨S,_⟩;simp only [LC]at S;have g5:=g4.trans S.gr;have s5:=s.gr g5;have j5:=Y.gr _ _ _ _ M g5;have E:=o.gr g5;have R8:=S.row (b:=O) m0;have Rl:=R4.gr S.gr;have k4:=g4.n;have oC:Own (fun c=>(c=l\/aq G c)\/c=O\/c=bl) h5 h5 F:=⟨Xz _,fun b q=>by
        rcases q with q|rfl|rfl
        . exact⟨Xa (E.2 b q).1 E.1,(E.2 b q).2.1,rfl⟩
        . exact⟨R8.lt S.ok,fun C=>by have:=s.lt _ C;omega,rfl⟩
        . exact⟨Rl.lt S.ok,fun C=>by have:=s.lt _ C;omega,rfl⟩⟩
       have l5:h5.load l 0 1=some [.func (.yield lb) #[] #[]]:=nQ lB (E.2 l (.inl rfl)).2.2;simp only [BZ,r5,seval];refine step_ret (won_ok t y hz Y (B:=fun c=>(c=l\/aq G c)\/c=O\/c=bl) (.inl (.inl rfl)) l5 (.inl rfl) K u (g:=187) (post:=#[ptrTo O]) (f:=lI γ b) (fun h F s o a D=>worth3_ok s.ok (nQ (R8.load1 (o:=0) rfl) (o.2 O (.inr (.inl rfl))).2.2) (Row.of_get (o.2 bl (.inr (.inr rfl))).2.2 Rl) D) N s5 oC j5) ?_;rintro v h6 (⟨rfl,F6,s6,o6,j6⟩|⟨rfl,z6⟩)
       . simp only [BZ,r19,w,seval];refine ih (j+1) _ _ (by omega) ⟨by omega,F6,s6,⟨Xj E.1 o6.1,fun b q=>⟨(E.2 b q).1,(o6.2 b (.inl q)).2.1,(o6.2 b (.inl q)).2.2.trans (E.2 b q).2.2⟩⟩,by rw [tk,<-Nat.add_assoc];exact j6,by simp [aB,r1,ah,r5,r17,r18]⟩
       . simp only [BZ,seval];exact ie rfl ⟨rfl,.inr (.inl ⟨_,rfl,z6⟩)⟩
     . have:j=L.length:=(by omega);subst this;simp only [BZ,r18,r19,aF,hlt,seval];refine cy (cd ⟨rfl,_,rfl,rfl,.inl ⟨_,F,rfl,?_⟩⟩);rw [Xn]at M;rw [Xp];unfold fQ;rw [List.length_append,T];exact M
   . exact⟨Xk _,F2,sA,oB,by simpa using jA,by simp [aB,dh,ah]⟩
 . simp only [BZ,seval];exact ie rfl ⟨rfl,.inr (.inl ⟨_,rfl,z2⟩)⟩
end
def OkB(e:Gra)(c:Nat->Nat)(b k i:Nat)(B:Nat->Nat):Prop:= ∀d a,a/8<b->(gu B b d a=true↔(d<k/\a∈fQ e c d)\/(d=k/\a∈(fQ e c k).take i))
theorem OkB.zero:OkB d c b 0 0 (fun _=>0):=fun e a _=>by simp [gu]
theorem OkB.next{f:Gra}(o:OkB f c b k (fQ f c k).length B):OkB f c b (k+1) 0 B:=fun g a h=>by
 rw [o g a h,Xn];simp only [XH,Xl,and_false,or_false];constructor
 . rintro(⟨i,d⟩|⟨rfl,d⟩)
   . exact⟨by omega,d⟩
   . exact⟨by omega,d⟩
 . rintro⟨i,d⟩;by_cases e:g=k
   . subst e;exact .inr ⟨rfl,d⟩
   . exact .inl ⟨by omega,d⟩
theorem OkB.set(n:b=(d.arcs.length+7)/8)(o:OkB d c b k i B)(l:i<(fQ d c k).length)(hlt:(fQ d c k)[i]<d.arcs.length):OkB d c b k (i+1) (dU B (k*b+(fQ d c k)[i]/8) (setB (B (k*b+(fQ d c k)[i]/8)) ((fQ d c k)[i]%8))):=fun j a m=>by
 rw [CD (by omega) (by omega),Xd l];by_cases e:j=k/\a=(fQ d c k)[i]
 . rw [if_pos e];obtain⟨rfl,e⟩:=e;subst e;exact⟨fun _=>.inr ⟨rfl,List.mem_append.2 (.inr (List.mem_singleton.2 rfl))⟩,fun _=>rfl⟩
 . rw [if_neg e,o j a m];simp only [XC,XJ];constructor
   . rintro(h|⟨g,f⟩)
     . exact .inl h
     . exact .inr ⟨g,.inl f⟩
   . rintro(h|⟨g,f|f⟩)
     . exact .inl h
     . exact .inr ⟨g,f⟩
     . exact absurd ⟨g,f⟩ e
theorem zD(h:a∈fQ d c k):a<d.arcs.length:=by
 unfold fQ at h;rcases List.mem_append.1 h with h|h
 . exact List.mem_range.1 (List.mem_filter.1 h).1
 . obtain⟨b,_,h⟩:=List.mem_flatMap.1 h;exact List.mem_range.1 (List.mem_filter.1 h).1
theorem perm_db{c:Type}{x a b d:c}{l:List c}:List.Perm (x::([a,b]++(d::l))) ([d,x,a,b]++l):=by show List.Perm ([x,a,b]++d::l) (d::([x,a,b]++l));exact List.perm_middle
theorem Az{L:List (Nat×Ob)}{a:List Nat}:keys (L++dJ a) []=L.map Prod.fst++a:=by simp [keys,dJ,XM]
theorem ofB_ok  (ok:OZ h0) {q:Gra} {mb bp cb:Nat} {m:List Int}  {M:Nat} (D:Good q) (hn:aS h0 nb (ptrTo bp) q) (x:gG h0 mb (ptrTo cb) q.nodes m c) (hM:gP m+1=(M:Int)) (Q:M<=100):
 Ret zM 38 [ptrTo bp,ptrTo cb] h0 fun r h'=>Gr h0 h'/\ ∃t f B,r=ptrTo t/\h0.n<=t/\h0.n<=f/\t≠f/\eu h' t f M q.arcs.length ((q.arcs.length+7)/8) B/\OkB q c ((q.arcs.length+7)/8) M 0 B:=by
 have S:=Si ok;have n1:=D.n1;have n2:=D.n2;have ai:=D.many;have xl:=x.len;have co: ∀{h},Gr h0 h->mP h (ptrTo cb) m (M:Int):=fun g=>.inr ⟨⟨_,(x.gr g).at0⟩,by rw [hM]⟩;refine aa (n:=33) (rs:=[.tmp 4]) rfl Tryz.e38 rfl rfl rfl (lbt rfl) ?_;simp only [BZ,seval];refine ag (AS S.ok hn (co S.gr) n1 (by omega)) ?_;intro h1 g1;replace S:=S.call g1;simp only [BZ,xl,seval];refine ag (zj S.ok (co S.gr)) ?_;intro O R;replace S:=S.call R;simp only [BZ,seval];refine ag (kJ S.ok (hn.gr S.gr)) ?_;intro h3 g3;replace S:=S.call g3;simp only [BZ,seval];refine step_ret (bmNew_ok S.ok Q (by omega)) ?_;rintro r z ⟨U,t,f,rfl,nf,ax,H,V⟩;have k3:=S.gr.n;have ay:=S.ok;have gq:=S.gr.trans U;have kN:=U.n;have gS:=S.gr;clear S;have S:St (· =f) z z [(f,.row _ 1)] []:=St.init1 U.ok (o:=.row _ 1) V.b;have zf:=V.b.lt U.ok;have zp:=V.r.lt U.ok;simp only [BZ];refine ac aA S ?_;clear S;intro h u S ak;simp only [BZ,seval];refine aC (aE S (i:=0) rfl ?_ ?_ ?_ ono) ?_
 . exact(by simp only [FA0])
 . exact(by exact bD)
 . exact Xe (lbt rfl)
 clear S;rintro h ⟨S,mo⟩;clear mo;simp only [LC,ae,lay,Xg,Xh,seval]at S;simp only [BZ,seval];have gO: ∀{h:Hp} {L:List (Nat×Ob)} {G:List GL},St (· =f) z h L G->Gr h0 h:=fun S=>(gq.fr.trans S.fr (fun b e=>.inr (by subst e;omega)):Mo NoM _ _).gr;have kO: ∀{h:Hp} {L:List (Nat×Ob)} {G:List GL},St (· =f) z h L G->eu z t f M q.arcs.length ((q.arcs.length+7)/8) (fun _=>0)->Row h t [.int .i64 M,.int .i64 q.arcs.length,.int .i64 ((q.arcs.length+7)/8:Nat),.slice (some ⟨f,0,none⟩) (M*((q.arcs.length+7)/8)) (M*((q.arcs.length+7)/8))] 1:=fun S b=>Row.of_get (S.fr.get t zp H) b.r;have hr:=fun {h:Hp} {L:List (Nat×Ob)} {G:List GL} (S:St (· =f) z h L G)=>kO S V;refine ag (zj S.ok (co (gO S))) ?_;intro h4 g4;replace S:=S.call g4;simp only [BZ];generalize A:(q.arcs.length+7)/8=l at*
 refine rY (fun(k:Nat) P d h=>k<=M/\ ∃p B,d=p.map rZ/\St (· =f) z h ([(u,.row [ptrTo t] 1),(f,.row (ja (M*l) B) 1)]++dJ p) []/\(∀j,B j<256)/\OkB q c l k 0 B/\P 0=ptrTo bp/\P 1=ptrTo cb/\P 5=ptrTo u/\P 18=.int .i64 (M:Nat)/\P 19=.int .i64 k) (fun k=>M-k) ?_ 0 _ _ _ ?_
 . clear S g4;rintro k ih P d h ⟨hk,p,B,rfl,S,hB,oB,r0,r1,r5,r18,r19⟩;have w:an .i64 ((k:Int)+1)=((k+1:Nat):Int):=(by rw [wrap64]<;>omega);by_cases hlt:k<M
   . simp only [BZ,r18,r19,aF,hlt,seval];refine ac aA S ?_;clear S;intro h C S al;simp only [BZ,seval];refine aC (aE S (i:=0) rfl ?_ ?_ ?_ ono) ?_
     . exact(by simp only [FA0])
     . exact(by exact aZ)
     . exact Xe (lbt rfl)
     clear S;rintro h ⟨S,mo⟩;clear mo;simp only [LC,ae,lay,Xg,Xh,seval]at S;simp only [BZ,r0,r1,S.ld (b:=C) (o:=0) m0 rfl,seval];refine step_ret (worth_ok S.ok (k:=k) bD) ?_;rintro v hW ⟨gW,w3,w4,w5,rfl,n3,n4,n5,e3,e4,e5⟩;have kk: ∀b∈[C,u,f]++p,h0.n<=b/\b<w3/\b<w4/\b<w5/\b<hW.n:=fun b s=>(by have hm:b∈keys ([(C,Ob.row [.int .i64 (k:Nat)] 1),(u,.row [ptrTo t] 1),(f,.row (ja (M*l) B) 1)]++dJ p) []:=(by rw [Az];exact s);have h1:=S.key_lt hm;have O:=S.key_own hm;have h3:=gW.n;have h4:h0.n<=b:=O.elim (fun h=>by omega) (fun h=>by subst h;omega);omega);replace S:=S.call gW;have aL:=gW.n;have W:=gO S;have zN:=S.fr.n;have it:=worth1_it ok S.ok W.keep W.n D hn x e3 e4 e5;simp only [BZ];refine iz S (g:=181) (a:=#[]) (b:=#[ptrTo w3,ptrTo w4,ptrTo w5]) (by simp [bF,aB,ah]) rfl rfl ?_;intro O E I Y a0 a1 R;obtain⟨X,hX,Y⟩: ∃X:fS,X=_/\St (· =f) z O ([(I,.loop X),(E,.dfr),(C,.row [.int .i64 (k:Nat)] 1),(u,.row [ptrTo t] 1),(f,.row (ja (M*l) B) 1)]++dJ p) []:=⟨_,rfl,Y⟩;have hJ:Yld zM I (fun i h' F=> ∃B,St (· =f) z h' ([(I,.loop X),(E,.dfr),(C,.row [.int .i64 (k:Nat)] 1),(u,.row [ptrTo t] 1),(f,.row (ja (M*l) B) 1)]++dJ p) []/\(∀j,B j<256)/\OkB q c l k i B/\F=[I,E,C,u,f]++p) (fun _ _=>False) ((fQ q c k).map fun(a:Nat)=>[.int .i64 (a:Nat)]):=by
      refine⟨?_,?_,fun _ _ h=>h.elim,?_⟩
      . rintro i h F ⟨B,S,_,_,rfl⟩;exact⟨S.ok,fun b s=>S.key_lt (by rw [Az];exact s)⟩
      . rintro i h F h' ⟨B,S,a,b,rfl⟩ gg;exact⟨B,S.call gg,a,b,rfl⟩
      . rintro i x hR F J ⟨B,S,hB,oB,rfl⟩;have K:i<(fQ q c k).length:=(by have:=(List.getElem?_eq_some_iff.1 J).1;simpa using this);rw [Xm,Xc K]at J;cases J;have N:(fQ q c k)[i]<q.arcs.length:=zD (Xi K);have Z:=oB.set A.symm K N;generalize(fQ q c k)[i]=a at N Z;subst hX;refine iw (S.get m0) (by rw [Tryz.e38];rfl) rfl ?_;have S0:=S;replace S:=S.base;simp only [BZ,seval];refine gC S (i:=0) rfl rfl rfl rfl rfl ?_;clear S;intro h S;simp only [LC]at S;simp only [BZ,r5,S.ld (b:=C) (o:=0) m2 rfl,S.ld (b:=u) (o:=0) m3 rfl,seval];have BA:eu h t f M q.arcs.length l B:=⟨hr (S0.rebase S),S.row (b:=f) m4,hB⟩;refine step_ret (bSet_ok S.ok BA H hlt N Q (by omega) A.symm) ?_;rintro v h5 ⟨f5,rfl,B5⟩;have S5:=S.call1 (i:=4) (o':=.row _ 1) rfl f5 B5.b;simp only [XL,List.set_cons_succ]at S5;clear S;simp only [BZ];refine dV S5 (i:=0) rfl ?_;clear S5;intro h S;simp only [LC]at S;refine .inl ⟨rfl,_,⟨_,S0.rebase S,B5.lt,Z,rfl⟩,?_,fun c hc=>.inl hc⟩;exact S.fr.mono fun b s=>by simpa [keys,dJ,XM]using s
     refine cK (it I _ _ (fun _ _ h=>h) hJ O ([I,E,C,u,f]++p) ?_ ⟨B,Y,hB,oB,rfl⟩) fun o rc h' y=>jx y ?_
     . have kn:=R.n;refine⟨Y.ok,R.n,fun b s hd=>R.get b s,fun b s h=>?_,fun b s=>Y.key_lt (by simpa [keys,dJ,XM]using s)⟩;simp only [XC,Xo,Xl,or_false]at s;obtain⟨h1,O⟩:=h;have J:b=I\/b=E\/b∈[C,u,f]++p:=by
        rcases s with(s|s|s)|s
        . exact .inl s
        . exact .inr (.inl s)
        . exact .inr (.inr (List.mem_append.2 (.inl (by simpa using s))))
        . exact .inr (.inr (List.mem_append.2 (.inr s)))
       rcases J with rfl|rfl|J
       . omega
       . omega
       . have:=kk b J;omega
     . rintro F ⟨B1,T,af,ad,rfl⟩;rw [Xp]at ad;subst hX;refine⟨_,T.get m0,XE,?_⟩;replace T:=T.dead;show Run _ _ _ _ _ _ _ _;have T1:St (· =f) z _ ([(E,.dfr),(C,.row [.int .i64 (k:Nat)] 1),(u,.row [ptrTo t] 1),(f,.row (ja (M*l) B1) 1)]++dJ p) []:=T;have T':St (· =f) z _ ([(u,.row [ptrTo t] 1),(f,.row (ja (M*l) B1) 1)]++(E,.dfr)::dJ p) []:=(T1.permL perm_db).drop1;simp only [BZ,r19,w,seval];exact ih (k+1) _ _ _ (by omega) ⟨by omega,E::p,B1,rfl,T',af,ad.next,by simp [aB,r0,ah,r1,r5,r18]⟩
   . have:k=M:=(by omega);subst this;have gE:=gO S;have S0:=S;simp only [LC]at S;simp only [BZ,r5,r18,r19,aF,hlt,S.ld (b:=u) (o:=0) m0 rfl,seval];refine dq (ij p _ (L:=[(u,_),(f,_)]) (S0.permL XB) fun h4 S4=>?_);refine⟨rfl,(dX (by decide)).2 (bS.2 ?_)⟩;refine⟨gO S4,t,f,B,?_,by omega,by omega,H,⟨hr S4,S4.row m1,hB⟩,oB⟩;exact rfl
 . exact⟨Xk _,[],_,rfl,S,V.lt,OkB.zero,by simp [aB,dh,ah]⟩
theorem get1_ok(g:OZ h0)(l:h0.load b j 1=some [.int .u8 (x:Nat)])(c:x<256)(d:i<8):aO zM 276 [.pointer (some ⟨b,j,none⟩),.int .u8 ((2 ^i:Nat):Int)] h0 (.bool (x.testBit i)):=by
 have S:=Si g;cases f:x.testBit i with
 | true=>
   have a: ¬(((x&&& 2 ^i:Nat)):Int)=0:=fun e=>(by have:(x&&& 2 ^i)=0:=(by omega);rw [and_pow,f]at this;cases this);refine aa (n:=11) (rs:=[.tmp 4]) rfl Tryz.e276 rfl rfl rfl (lbt rfl) ?_;simp only [BZ,ab,l,b_and8 c (pow8 d),a,seval];exact S.gr
 | false=>have a:(((x&&& 2 ^i:Nat)):Int)=0:=(by have:=and_pow.2 f;omega);refine aa (n:=11) (rs:=[.tmp 4]) rfl Tryz.e276 rfl rfl rfl (lbt rfl) ?_;simp only [BZ,ab,l,b_and8 c (pow8 d),a,seval];exact S.gr
section
variable{h0:Hp}{bp bb rows wide long:Nat}{B:Nat->Nat}
theorem bGet_ok(j:OZ h0)(m:eu h0 bp bb rows wide long B)(t:r<rows)(u:i<wide)(b:rows<=100)(c:wide<=1000)(d:long=(wide+7)/8):
 aO zM 256 [ptrTo bp,.int .i64 (r:Nat),.int .i64 (i:Nat)] h0 (.bool (gu B long r i)):=by
 obtain⟨w,x,y,z,k,M,l⟩:=tK t u b c d;have A: ∀{h:Hp},Gr h0 h->aO zM 99 [ptrTo bp,.int .i64 (r:Nat),.int .i64 (i:Nat),.func (.func 276) #[] #[]] h (.bool (gu B long r i)):=by
  intro h g;have S:=Si g.ok;have e:=m.gr g;have C: ¬(r:Int)<0:=by omega
  have D: ¬(rows:Int)<=(r:Int):=by omega
  have E: ¬(i:Int)<0:=by omega
  have F: ¬(wide:Int)<=(i:Int):=by omega
  have G:=e.r.load1 (o:=2) rfl;have H:=e.r.load1 (o:=3) rfl;have I:=e.b.load1 (vt k);have J:=e.r.lt g.ok;refine aa (n:=46) (rs:=[.tmp 8]) rfl Tryz.e99 rfl rfl rfl (lbt rfl) ?_;simp only [BZ,C,seval];refine ag (jD S.ok e.bits) ?_;intro N f;replace S:=S.call f;simp only [BZ,D,E,seval];refine ag (jH S.ok (e.gr f).bits) ?_;intro O p;replace S:=S.call p;have a:=f.trans p;have K:=a.load G;have L:=a.load H;simp only [BZ,F,seval];refine ao (av rfl) (q:=0) (ps:=[]) (by kernel_rfl) ?_;simp only [BZ,cls,K,L,w,x,y,z,k,mL (n:=8) (by decide),jL (n:=8) (by decide),b_shl8 l,seval];refine bz (get1_ok S.ok (a.load I) (e.lt _) l) ?_;intro P s;have v:=am s (Xa J a.n);replace S:=S.call s;simp only [BZ,cls,ab,seval];exact⟨rfl,S.gr⟩
 have S:=Si j;refine aa (n:=11) (rs:=[.tmp 6]) rfl Tryz.e256 rfl rfl rfl (lbt rfl) ?_;simp only [BZ,seval];refine ag (A (Gr.refl j)) ?_;intro h g;simp only [BZ,ab,seval];exact g
end
theorem bOn_ok(d:OZ h0){c:Nat}:Ret zM 217 [ptrTo c,.int .i64 (r:Nat)] h0 fun v h'=>Gr h0 h'/\ ∃b2 b3,v=.func (.func 255) #[] #[ptrTo b2,ptrTo b3]/\h0.n<=b2/\h0.n<=b3/\h'.load b2 0 1=some [ptrTo c]/\h'.load b3 0 1=some [.int .i64 (r:Nat)]:=by have S:=Si d;refine aa (n:=6) (rs:=[.tmp 4]) rfl Tryz.e217 rfl rfl rfl (lbt rfl) ?_;simp only [BZ,seval];refine ac (bJ (by exact bD)) S ?_;clear S;intro h b2 S a;simp only [BZ,if_false,seval];refine ac (bJ (by exact aZ)) S ?_;clear S;intro h b3 S b;simp only [BZ,ab,seval];exact⟨S.gr,b2,b3,rfl,a,b,S.ld m1 rfl,S.ld m0 rfl⟩
section
variable{h0:Hp}{bp bb rows wide long:Nat}{B:Nat->Nat}
theorem eu.its(s:ItS h0 D h F)(a:OZ h0)(m:eu h0 bp bb rows wide long B)(b:D bp)(c:D bb):eu h bp bb rows wide long B:=
 ⟨Row.of_get (s.data bp (m.r.lt a) b) m.r,Row.of_get (s.data bb (m.b.lt a) c) m.b,m.lt⟩
theorem on1_it (b:OZ h0) (m:eu h0 bp bb rows wide long B)  (A:r<rows) (d:rows<=100) (e:wide<=1000) (f:long=(wide+7)/8)  (u:h0.load b2 0 1=some [ptrTo bp]) (C:h0.load b3 0 1=some [.int .i64 (r:Nat)]):
 mJ zM 255 [] [ptrTo b2,ptrTo b3] h0 (fun c=>c=b2\/c=b3\/c=bp\/c=bb) (((zO wide).filter (gu B long r)).map fun(i:Nat)=>[.int .i64 (i:Nat)]):=by
 intro D J Z E Y h F s g;have k:=s.load b u (.inl rfl);refine enter (n:=21) (rs:=[]) rfl Tryz.e255 rfl rfl rfl (lbt rfl) ?_;simp only [BZ,k,seval];refine ag (jH s.ok (m.its s b (.inr (.inr (.inl rfl))) (.inr (.inr (.inr rfl)))).bits) ?_;intro M o;have x:=s.gr o;have y:=Y.gr _ _ _ _ g o;simp only [BZ];refine aW (fun(i:Nat) j h=>i<=wide/\ ∃F,ItS h0 (fun c=>c=b2\/c=b3\/c=bp\/c=bb) h F/\J ((zO i).filter (gu B long r)).length h F/\j 0=.func (.yield D) #[] #[]/\j 1=ptrTo b2/\j 2=ptrTo b3/\j 6=.int .i64 (wide:Nat)/\j 7=.int .i64 i) (fun i=>wide-i) ?_ 0 _ _ ?_
 . clear k s g x y F o h;intro i z j h ⟨hi,F,s,g,r0,r1,r2,r6,r7⟩;have w:an .i64 ((i:Int)+1)=((i+1:Nat):Int):=(by rw [wrap64]<;>omega);by_cases hlt:i<wide
   . have k:=s.load b u (.inl rfl);have G:=s.load b C (.inr (.inl rfl));have H:=m.its s b (.inr (.inr (.inl rfl))) (.inr (.inr (.inr rfl)));simp only [BZ,r1,r2,r6,r7,aF,hlt,k,G,seval];refine ag (bGet_ok s.ok H A hlt d e f) ?_;intro N l;cases p:gu B long r i with
     | true=>
       have I:(((zO wide).filter (gu B long r)).map fun(i:Nat)=>[Value.int .i64 (i:Nat)])[((zO i).filter (gu B long r)).length]? =some [.int .i64 (i:Nat)]:=(by rw [Xm,sU p _ hlt];rfl);have q:((zO (i+1)).filter (gu B long r)).length=((zO i).filter (gu B long r)).length+1:=(by rw [jc,if_pos p];simp);simp only [BZ,r0,seval];refine dg Y (s.gr l) (Y.gr _ _ _ _ g l) (i:=((zO i).filter (gu B long r)).length) I ?_ ?_ ?_
       . intro t K a L _ _;simp only [BZ,r7,w,seval];exact z (i+1) _ _ (by omega) ⟨by omega,K,L,by rw [q];exact a,by simp [aB,r0,r1,ah,r2,r6]⟩
       . intro t a _;simp only [BZ,seval];exact ie rfl ⟨rfl,.inr (.inl ⟨_,rfl,a⟩)⟩
       . intro v t a;exact absurd a (E v t)
     | false=>have q:(zO (i+1)).filter (gu B long r)=(zO i).filter (gu B long r):=(by rw [jc,if_neg (by rw [p];decide)];simp);simp only [BZ,r7,w,seval];exact z (i+1) _ _ (by omega) ⟨by omega,F,s.gr l,by rw [q];exact Y.gr _ _ _ _ g l,by simp [aB,r0,r1,ah,r2,r6]⟩
   . simp only [BZ,r6,r7,aF,hlt,seval];have:i=wide:=(by omega);subst this;exact cy (cd ⟨rfl,_,rfl,rfl,.inl ⟨_,F,rfl,by simpa using g⟩⟩)
 . exact⟨Xk _,F,x,y,by simp [aB,dh,ah]⟩
theorem bRow_ok(G:OZ h0)(m:eu h0 bp bb rows wide long B)(hr:r<rows)(s:rows<=100)(d:wide<=1000)(t:long=(wide+7)/8):
 Ret zM 148 [ptrTo bp,.int .i64 (r:Nat)] h0 fun v h'=>Gr h0 h'/\az h' 1 bK v ((zO wide).filter (gu B long r))/\ ∀c,aq v c->h0.n<=c:=by
 have S:=Si G;refine aa (n:=15) (rs:=[.cell 4 41]) rfl Tryz.e148 rfl rfl rfl (lbt rfl) ?_;simp only [BZ];refine ac aA S ?_;clear S;intro h p S Q;simp only [BZ,seval];have k4:=(S.row (b:=p) m0).lt S.ok;refine step_ret (bOn_ok S.ok) ?_;rintro v R ⟨g,b2,b3,rfl,n2,n3,y2,y3⟩;have H:=m.gr (S.gr.trans g);replace S:=S.call g;have U:=on1_it S.ok H hr s d t y2 y3;have zp:=H.r.lt S.ok;have zb:=H.b.lt S.ok;have wp:=m.r.lt G;have wb:=m.b.lt G;generalize I:(zO wide).filter (gu B long r)=f at U;have af:f.length<=1000:=by rw [<-I];exact Xj sJ d
 simp only [BZ];replace S:=S.nilG (k:=1);refine iz S (g:=255) (a:=#[]) (b:=#[ptrTo b2,ptrTo b3]) (by simp [bF,aB,ah]) rfl rfl ?_;intro J E u z K M V;obtain⟨X,W,z⟩: ∃X:fS,X=_/\St NoM h0 J [(u,.loop X),(E,.dfr),(p,.row [.slice none 0 0] 1)] [(.slice none 0 0,1,[])]:=⟨_,rfl,z⟩;have hJ:Yld zM u (fun k h' F=> ∃(l:Value),St NoM h0 h' [(u,.loop X),(E,.dfr),(p,.row [l] 1)] [(l,1,gK (f.take k))]/\k<=f.length/\F=keys [(u,.loop X),(E,.dfr),(p,.row [l] 1)] [(l,1,gK (f.take k))]/\(∀c∈F,R.n<=c\/c=p)) (fun _ _=>False) (f.map fun(i:Nat)=>[.int .i64 (i:Nat)]):=by
  refine⟨?_,?_,fun _ _ h=>h.elim,?_⟩
  . rintro i h F ⟨l,S,_,rfl,_⟩;exact⟨S.ok,fun b q=>S.key_lt q⟩
  . rintro i h F h' ⟨l,S,a,rfl,c⟩ gg;exact⟨l,S.call gg,a,rfl,c⟩
  . rintro i x hR F N ⟨l,S,a,rfl,Y⟩;have A:i<f.length:=(by have:=(List.getElem?_eq_some_iff.1 N).1;simpa using this);rw [Xm,Xc A]at N;cases N;have Z:gK (f.take (i+1))=gK (f.take i)++[.int .i64 (f[i]:Nat)]:=(by rw [Xd A];unfold gK;rw [List.map_append];rfl);have tl:(gK (f.take i)).length<=i:=(by rw [pG,XO];omega);generalize f[i]=x at Z;have ai:Fl l:=(S.gown _ m0).1.fl;subst W;refine iw (S.get m0) (by rw [Tryz.e148];rfl) rfl ?_;have S0:=S;have kR:=S.fr.n;have lim:R.n<=hR.n:=(by have h1:=Y u (by simp [keys]);have J:=S.key_lt (b:=u) (by simp [keys]);omega);replace S:=S.base;simp only [BZ,seval];refine gC S (i:=0) rfl rfl rfl rfl rfl ?_;clear S;intro h S;simp only [LC]at S;simp only [BZ,S.ld (b:=p) (o:=0) m2 rfl,seval];refine ac (ce (by exact Tryz.t41.1) (by exact Tryz.e3E) (by decide) (by rfl)) S ?_;clear S;intro h bs S ad;simp only [LC,bH,cg,ae,XF,Xx,Xv,XI,seval]at S;simp only [BZ,seval];have C:aK h 1 (.slice (some ⟨bs,0,none⟩) 1 1)=some (1,[.int .i64 (x:Nat)]):=(by simp only [aK];rw [S.lds (b:=bs) (o:=0) (n:=1*1) m0 (lbt rfl)];rfl);replace S:=S.drop1;refine dE (S.grow (j:=0) (m:=1) (new:=[.int .i64 (x:Nat)]) rfl Tryz.t41.1 Tryz.e3E (by decide) Tryz.t41.2.2.2.2.2 C rfl (by decide) rfl (by rw [pG];simp;omega)) ?_;clear S C;rintro h D S;simp only [LC]at S;have O:Fl D:=(S.gown _ m0).1.fl;simp only [BZ,seval];refine aC (aE S (i:=2) rfl Tryz.t41.2.2.1 O (Xe (lbt rfl)) ono) ?_;clear S;rintro h ⟨S,_⟩;simp only [LC]at S;simp only [BZ];refine dV S (i:=0) rfl ?_;clear S;intro h S;simp only [LC]at S;rw [<-Z]at S;refine .inl ⟨rfl,_,⟨D,S0.rebase S,by omega,rfl,fun c w=>?_⟩,S.fr,S.key_new⟩;rcases S.key_new c w with h|h
    . exact Y c h
    . exact .inl (by omega)
 refine cK (U u _ _ (fun _ _ h=>h) hJ J _ ?_ ⟨_,z,Xk _,rfl,fun c w=>?_⟩) fun o rc h' y=>jx y ?_
 . refine⟨z.ok,V.n,fun b q _=>V.get b q,fun b q h=>?_,fun b q=>z.key_lt q⟩;simp only [keys,XA,XD,XU,eo,XK,XS,Xo,Xl,or_false]at q;rcases q with rfl|rfl|rfl
   . omega
   . omega
   . rcases h.2 with e|e|e|e<;>omega
 . simp only [keys,XA,XD,XU,eo,XK,XS,Xo,Xl,or_false]at w;rcases w with rfl|rfl|rfl
   . exact .inl M
   . exact .inl K
   . exact .inr rfl
 . rintro F ⟨l,T,b,rfl,_⟩;rw [Xp,Xn]at T;subst W;refine⟨_,T.get m0,XE,?_⟩;replace T:=T.dead;have S:=T;show Run _ _ _ _ _ _ _ _;simp only [BZ,S.ld (b:=p) (o:=0) m1 rfl,seval];have O:Fl l:=(T.gown _ m0).1.fl;clear S;refine aC (aE T (i:=1) rfl Tryz.t41.2.2.1 O (Xe (lbt rfl)) ono) ?_;clear T;rintro h3 ⟨T,_⟩;simp only [XL,List.set_cons_succ]at T;simp only [BZ];refine dq (ij [E] _ (L:=[(p,_)]) T.base fun h4 P=>?_);refine⟨rfl,(bw (by decide) (by simp only [aD,ah,seval];exact kW Tryz.t41.2.1 (P.ld (b:=p) (o:=0) m0 rfl))).2 (bS.2 ⟨(T.rebase P).gr,(P.gown _ m0).1.sl (u9 _).symm dC (by decide),fun c w=>?_⟩)⟩;rcases(T.gblk m0 w).1 with h|h
   . exact h
   . exact h.elim
end
theorem allowF_ok(M:OZ h0){l f g:Nat}(m:eu h0 H N l f g B)(O:k<l)(p:l<=100)(q:f<=1000)(s:g=(f+7)/8):
 Ret zM 56 [ptrTo H,.int .i64 (k:Nat)] h0 fun r h'=>Gr h0 h'/\ ∃o,r=.slice (some ⟨o,0,none⟩) f f/\Row h' o (dZ f (gu B g k)) 1/\h0.n<=o:=by
 have S:=Si M;have P: ¬((k:Int)<0):=by omega
 have Q: ¬((l:Int)<=(k:Int)):=by omega
 refine aa (n:=32) (rs:=[.tmp 4]) rfl Tryz.e56 rfl rfl rfl (lbt rfl) ?_;simp only [BZ,P,seval];refine ag (jD S.ok m.bits) ?_;intro R T;replace S:=S.call T;simp only [BZ,Q,seval];refine ag (jH S.ok (m.gr S.gr).bits) ?_;intro h2 U;replace S:=S.call U;simp only [BZ,seval];refine ac (lZ (by exact Tryz.t100.1) (by exact Tryz.e4E) (by omega) (by omega)) S ?_;clear S;intro h o S y;have V:bH [Value.bool false] f=dZ f (fun a=>decide (a∈((zO f).filter (gu B g k)).take 0)):=by rw [px];unfold dZ;simp [List.map_const']
 rw [Xy,V]at S;simp only [BZ,Xy,seval];refine step_ret (bRow_ok S.ok (m.gr S.gr) O p q s) ?_;rintro v W ⟨X,D,Y⟩;have k3:=(S.row (b:=o) m0).lt S.ok;replace S:=S.call X;generalize E:(zO f).filter (gu B g k)=L at D S;have F: ∀a∈L,a<f:=fun a I=>by rw [<-E]at I;exact List.mem_range.1 (List.mem_filter.1 I).1
 have Z:L.length<=f:=by rw [<-E];exact sJ
 have ad:=S.ok;have nA:=S.gr;simp only [BZ,D.lenq,seval];refine aW (fun(i:Nat) z h=>i<=L.length/\St NoM h0 h [(o,.row (dZ f (fun a=>decide (a∈L.take i))) 1)] []/\(∀c,aq v c->h.get c=W.get c)/\z 5=.slice (some ⟨o,0,none⟩) f f/\z 21=v/\z 22=.int .i64 (L.length:Nat)/\z 23=.int .i64 i) (fun i=>L.length-i) ?_ 0 _ _ ?_
 . clear S;intro i ih z h ⟨hi,S,hv,r5,r21,r22,r23⟩;have w:an .i64 ((i:Int)+1)=((i+1:Nat):Int):=(by rw [wrap64]<;>omega);by_cases hlt:i<L.length
   . have J:=sl_get D hv;obtain⟨d,oo,x0,A⟩:=J.ix (kd:=.i64) dC hlt;have t:=F _ (Xi hlt);have G:dZ f (fun u=>decide (u∈L.take (i+1)))=(dZ f (fun u=>decide (u∈L.take i))).set L[i] (.bool true):=(by rw [Cz];refine mI fun j _=>?_;rw [Xd hlt];simp only [XC,XJ];by_cases e1:j=L[i]<;>by_cases e2:j∈L.take i<;>simp [e1,e2]);rw [show(L.take (i+1))=L.take (i+1)from rfl]at G;generalize L[i]=x at t A G;replace A:h.load d oo 1=some [.int .i64 (x:Nat)]:=A;simp only [BZ,r5,r21,r22,r23,aF,hlt,x0,A,seval];have K:=S;replace S:=S.base;simp only [BZ,t,seval];refine aC (aE S (i:=0) rfl Tryz.t4.2.2.1 og (by rw [tD];exact t) ono) ?_;clear S;rintro h' ⟨S,mo⟩;simp only [LC]at S;simp only [BZ,r23,w,seval];refine ih (i+1) _ _ (by omega) ⟨by omega,?_,?_,by simp [aB,r5,r21,r22]⟩
     . rw [G];exact K.rebase S
     . intro c C;have R:=Y c C;exact(mo.get c (J.blt K.ok C) (fun e=>by have e:c=o:=e;omega)).trans (hv c C)
   . have:i=L.length:=(by omega);subst this;simp only [BZ,ab,r5,r22,r23,aF,hlt,seval];refine⟨S.gr,o,rfl,?_,y⟩;have e:dZ f (gu B g k)=dZ f (fun a=>decide (a∈L.take L.length)):=mI fun j hj=>(by rw [Xn,<-E];simp [List.mem_filter,hj]);rw [e];exact S.row m0
 . exact⟨Xk _,S,fun c C=>rfl,by simp [aB]⟩
def sfC(b c pn d:Value)(way f t a:Int):List Value:=[b,c,pn,d,.int .i64 way,.int .i64 f,.int .i64 t,.int .i64 a]
section
variable{hq:Hp}{bq bp nb nd mk:Nat}{γ:Gra}{pc pf pt:Value}{way f t a:Int}{fitB:Bool}
theorem sfNet_ok(R:Row hq bq (sfC pc pf (ptrTo bp) pt way f t a) 1)(b:hq.load b1 0 1=some [ptrTo bq]): ∀h,Gr hq h->aO zM 142 [ptrTo b1] h (.bool true):=by intro h g;have S:=Si g.ok;have c:=(R.gr g).load1 (o:=2) rfl;refine aa (n:=7) (rs:=[.tmp 1]) rfl Tryz.e142 rfl rfl rfl (lbt rfl) ?_;simp only [BZ,ab,g.load b,c,seval];exact S.gr
theorem sfWay_ok(R:Row hq bq (sfC pc pf (ptrTo bp) pt way f t a) 1)(c:hq.load b1 0 1=some [ptrTo bq]): ∀h,Gr hq h->aO zM 143 [ptrTo b1] h (.bool (decide (way=4\/way=5))):=by
 intro h g;have S:=Si g.ok;have d:=(R.gr g).load1 (o:=4) rfl;refine aa (n:=16) (rs:=[.tmp 1]) rfl Tryz.e143 rfl rfl rfl (lbt rfl) ?_;by_cases b:way=4
 . simp only [BZ,ab,g.load c,d,b,seval];exact⟨by simp [b],S.gr⟩
 . by_cases e:way=5
   . subst e;simp only [BZ,ab,g.load c,d,(by decide: ¬(5:Int)=4),seval];exact⟨by simp,S.gr⟩
   . simp only [BZ,ab,g.load c,d,b,e,seval];exact⟨by simp [b,e],S.gr⟩
theorem yP(c:aS hq nb (ptrTo bp) γ)(R:Row hq bq (sfC pc pf (ptrTo bp) pt way f t a) 1){v:Int}: ∀h,Gr hq h->aO zM 145 [ptrTo bq,.int .i64 v] h (.bool (decide (0<=v/\v<γ.nodes))):=by
 intro h g;have S:=Si g.ok;have d:=(R.gr g).load1 (o:=2) rfl;refine aa (n:=16) (rs:=[.tmp 4]) rfl Tryz.e145 rfl rfl rfl (lbt rfl) ?_;by_cases b:0<=v
 . simp only [BZ,d,b,seval];refine ag (bM S.ok ((c.gr g).gr S.gr)) ?_;intro h g;replace S:=S.call g;clear g;simp only [BZ,ab,seval];exact S.gr
 . simp only [BZ,ab,b,seval];exact⟨by simp [b],S.gr⟩
theorem sfFrom_ok(b:aS hq nb (ptrTo bp) γ)(R:Row hq bq (sfC pc pf (ptrTo bp) pt way f t a) 1)(c:hq.load b1 0 1=some [ptrTo bq]): ∀h,Gr hq h->aO zM 144 [ptrTo b1] h (.bool (decide (0<=f/\f<γ.nodes))):=by intro h g;have S:=Si g.ok;have d:=(R.gr g).load1 (o:=5) rfl;refine aa (n:=9) (rs:=[.tmp 1]) rfl Tryz.e144 rfl rfl rfl (lbt rfl) ?_;simp only [BZ];refine ao (av rfl) (q:=0) (ps:=[]) (by kernel_rfl) ?_;simp only [BZ,cls,g.load c,d,seval];refine bz (yP b R _ (g.trans S.gr)) ?_;intro i e;replace S:=S.call e;simp only [BZ,cls,ab,seval];exact S.gr
theorem sfTo_ok(b:aS hq nb (ptrTo bp) γ)(R:Row hq bq (sfC pc pf (ptrTo bp) pt way f t a) 1)(c:hq.load b1 0 1=some [ptrTo bq]): ∀h,Gr hq h->aO zM 146 [ptrTo b1] h (.bool (decide (0<=t/\t<γ.nodes))):=by intro h g;have S:=Si g.ok;have d:=(R.gr g).load1 (o:=6) rfl;refine aa (n:=9) (rs:=[.tmp 1]) rfl Tryz.e146 rfl rfl rfl (lbt rfl) ?_;simp only [BZ];refine ao (av rfl) (q:=0) (ps:=[]) (by kernel_rfl) ?_;simp only [BZ,cls,g.load c,d,seval];refine bz (yP b R _ (g.trans S.gr)) ?_;intro i e;replace S:=S.call e;simp only [BZ,cls,ab,seval];exact S.gr
theorem C5(u:aS hq nb (ptrTo bp) γ)(T:TabO zM hq pt nd mk 41 40)(R:Row hq bq (sfC pc pf (ptrTo bp) pt way f t a) 1): ∀h,Gr hq h->aO zM 216 [ptrTo bq] h (.bool (decide (0<mk/\nd=γ.nodes))):=by
 intro h g;have w:=T.fl;have S:=Si g.ok;have z:=(R.gr g).lt g.ok;have e:=(R.gr g).load1 (o:=3) rfl;have v:=(R.gr g).load1 (o:=2) rfl;refine aa (n:=23) (rs:=[.tmp 2]) rfl Tryz.e216 rfl rfl rfl (lbt rfl) ?_;simp only [BZ];refine ao (av rfl) (q:=0) (ps:=[(12,16)]) (by kernel_rfl) ?_;simp only [BZ,cls,e,seval];refine bU (T.marks _ (g.trans S.gr)) ?_;rintro r x ⟨b,l,i,y⟩;replace S:=S.call b;have j:=am b z;by_cases k:0<mk
 . have d:(0:Int)<(l.length:Int):=(by omega);simp only [BZ,cls,i.lenq,d,b.load e,seval];refine bz (T.nodes _ (g.trans S.gr)) ?_;intro A c;have m:=am c (Xa z b.n);replace S:=S.call c;simp only [BZ,cls,c.load (b.load v),seval];refine bz (bM S.ok ((u.gr g).gr S.gr)) ?_;intro B p;have s:=am p (Xa z (b.trans c).n);replace S:=S.call p;simp only [BZ,cls,ab,seval];refine⟨by simp only [aJ,aR,aH,aT,aI,ne_eq,not_false_eq_true,aY,bC,aQ,aN,bF,bW,aD,Xb,ah,dh,ar j,au j,ar m,au m,ar s,au s,seval],?_⟩;exact⟨by simp [k,Int.ofNat_inj],S.gr⟩
 . have d: ¬(0:Int)<(l.length:Int):=(by omega);simp only [BZ,cls,ab,i.lenq,d,seval];exact⟨by simp only [aJ,aR,aH,aT,aI,ne_eq,not_false_eq_true,j9,sa,Xb,seval],by simp [k],S.gr⟩
def kC(fitB:Bool)(way:Int)(mk nd N:Nat):Bool:=fitB&&(decide (way≠5)||decide (0<mk/\nd=N))
theorem sfFits_ok(i:aS hq nb (ptrTo bp) γ)(T:TabO zM hq pt nd mk 41 40)(R:Row hq bq (sfC pc pf (ptrTo bp) pt way f t a) 1)(m:Fl pc)(p:Fl pf)(F: ∀h,Gr hq h->aO zM 42 [ptrTo bp,pc,pf] h (.bool fitB)):
 ∀h,Gr hq h->aO zM 147 [ptrTo bq] h (.bool (kC fitB way mk nd γ.nodes)):=by
 intro h g;have S:=Si g.ok;have z:=(R.gr g).lt g.ok;have j:=(R.gr g).load1 (o:=0) rfl;have k:=(R.gr g).load1 (o:=1) rfl;have l:=(R.gr g).load1 (o:=2) rfl;have d:=(R.gr g).load1 (o:=4) rfl;refine aa (n:=30) (rs:=[.tmp 2]) rfl Tryz.e147 rfl rfl rfl (lbt rfl) ?_;simp only [BZ];refine ao (av rfl) (q:=0) (ps:=[]) (by kernel_rfl) ?_;simp only [BZ,cls,j,k,l,seval];refine bz (F _ (g.trans S.gr)) ?_;intro r b;have s:=am b z;replace S:=S.call b;cases fitB with
 | false=>simp only [BZ,cls,ab,seval];exact⟨by simp [kC],S.gr⟩| true=>
   by_cases c:way=5
   . simp only [BZ,cls,b.load d,c,seval];refine bz (C5 i T R _ (g.trans S.gr)) ?_;intro u e;have v:=am e (Xa z b.n);replace S:=S.call e;simp only [BZ,cls,ab,seval];exact⟨by simp [kC],S.gr⟩
   . simp only [BZ,cls,ab,b.load d,c,seval];exact⟨by simp [kC,c],S.gr⟩
end
structure Rs where
 g:FuncId
 pre:Array Value
 post:Array Value
 ok:Bool
 code:Int
def argS(r:Rs):List Value:=[.int .i64 r.code,.func (.func r.g) r.pre r.post]
def qX:List Rs->Int
 | []=>0|r::a=>if r.ok=true then qX a else r.code
theorem firstS_at{rs:List Rs}{r:Rs}(h:rs[i]? =some r)(a: ∀q∈rs.take i,q.ok=true)(b:r.ok≠true):qX rs=r.code:=by
 induction rs generalizing i with
 |nil=>cases h
 | cons q rs c=>
   cases i with
   |zero=>cases h;unfold qX;rw [if_neg b]
   | succ i=>
     rw [qX,if_pos (a q (by simp))];exact c (by simpa using h) (fun x d=>a x (by simp [d]))
theorem Ea{rs:List Rs}(h: ∀q∈rs,q.ok=true):qX rs=0:=by
 induction rs with
 |nil=>rfl|cons q rs a=>rw [qX,if_pos (h q (by simp))];exact a (fun x b=>h x (by simp [b]))
def sfRs(b1 bq:Nat)(okW okF okT okX:Bool):List Rs:=[⟨142,#[],#[ptrTo b1],true,1⟩,⟨143,#[],#[ptrTo b1],okW,16⟩,⟨144,#[],#[ptrTo b1],okF,17⟩,⟨146,#[],#[ptrTo b1],okT,18⟩,⟨147,#[ptrTo bq],#[],okX,19⟩]
theorem looks_ok(b:OZ h0):Ret zM 53 [ptrTo bq] h0 fun v h'=>Gr h0 h'/\ ∃b1,v=.func (.func 141) #[] #[ptrTo b1]/\h0.n<=b1/\h'.load b1 0 1=some [ptrTo bq]:=by have S:=Si b;refine aa (n:=4) (rs:=[.tmp 2]) rfl Tryz.e53 rfl rfl rfl (lbt rfl) ?_;simp only [BZ,seval];refine ac (bJ (by exact bD)) S ?_;clear S;intro h b1 S a;simp only [BZ,ab,seval];exact⟨S.gr,b1,rfl,a,S.ld m0 rfl⟩
theorem looks1_it(f:OZ h0)(g:h0.load b1 0 1=some [ptrTo bq]):mJ zM 141 [] [ptrTo b1] h0 (fun c=>c=b1) ((sfRs b1 bq okW okF okT okX).map argS):=by
 intro l J Z e Y h F s b;have S:=Si s.ok;refine enter (n:=27) (rs:=[]) rfl Tryz.e141 rfl rfl rfl (lbt rfl) ?_;simp only [BZ,seval];refine dg Y s b (i:=0) rfl ?_ ?_ (fun v d a=>absurd a (e v d));rotate_left
 . intro d a _;simp only [BZ,seval];exact cy (cd ⟨rfl,_,rfl,rfl,.inr (.inl ⟨_,rfl,a⟩)⟩)
 clear b s;intro m o b s _ _;simp only [BZ,seval];refine dg Y s b (i:=1) rfl ?_ ?_ (fun v d a=>absurd a (e v d));rotate_left
 . intro d a _;simp only [BZ,seval];exact cy (cd ⟨rfl,_,rfl,rfl,.inr (.inl ⟨_,rfl,a⟩)⟩)
 clear b s;intro p q b s _ _;simp only [BZ,seval];refine dg Y s b (i:=2) rfl ?_ ?_ (fun v d a=>absurd a (e v d));rotate_left
 . intro d a _;simp only [BZ,seval];exact cy (cd ⟨rfl,_,rfl,rfl,.inr (.inl ⟨_,rfl,a⟩)⟩)
 clear b s;intro d r b s _ _;simp only [BZ,seval];refine dg Y s b (i:=3) rfl ?_ ?_ (fun v d a=>absurd a (e v d));rotate_left
 . intro d a _;simp only [BZ,seval];exact cy (cd ⟨rfl,_,rfl,rfl,.inr (.inl ⟨_,rfl,a⟩)⟩)
 clear b s;intro t u b s _ _;have j:=s.load f g rfl;simp only [BZ,j,seval];refine dg Y s b (i:=4) rfl ?_ ?_ (fun v d a=>absurd a (e v d));rotate_left
 . intro d a _;simp only [BZ,seval];exact cy (cd ⟨rfl,_,rfl,rfl,.inr (.inl ⟨_,rfl,a⟩)⟩)
 clear b s;intro w k b s _ _;simp only [BZ,seval];exact cy (cd ⟨rfl,_,rfl,rfl,.inl ⟨_,k,rfl,b⟩⟩)
theorem exTo(c:OZ h0){a:Gra}(b:Good a){d:Nat}(e:aS h0 d pn a)(f:s<a.nodes)(v:Nat):IsD (seen a.arcs Arc.t Arc.s) s v (dOf (seen a.arcs Arc.t Arc.s) s v):=by obtain⟨_,_,_,_,_,_,_,D,_,_,_,_,_,_,_,g,_⟩:=tG c b e f;exact(yU (g v)).2
theorem exFrom(c:OZ h0){a:Gra}(b:Good a){d:Nat}(e:aS h0 d pn a)(f:s<a.nodes)(v:Nat):IsD (seen a.arcs Arc.s Arc.t) s v (dOf (seen a.arcs Arc.s Arc.t) s v):=by obtain⟨_,_,_,_,_,_,_,D,_,_,_,_,_,_,_,g,_⟩:=uE c b e f;exact(yU (g v)).2
theorem tU(B:List Arc)(N s:Nat):(rowD B N s).length=N:=by simp [rowD]
theorem fold_ge(l:List Int)(a:Int):a<=l.foldl max a/\ ∀x∈l,x<=l.foldl max a:=by
 induction l generalizing a with
 |nil=>exact⟨Int.le_refl _,fun x h=>by cases h⟩
 | cons y e c=>
   obtain⟨f,d⟩:=c (max a y);refine⟨by rw [List.foldl_cons];omega,fun x b=>?_⟩;rw [List.foldl_cons];rcases List.mem_cons.1 b with rfl|b
   . omega
   . exact d x b
theorem lmax_ge{x:Int}(h:x∈l):x<=gP l:=by
 cases l with
 |nil=>cases h
 | cons y a=>
   rw [gP];rcases List.mem_cons.1 h with rfl|h
   . exact(fold_ge a _).1
   . exact(fold_ge a _).2 x h
theorem slB_of(R:Row h a (dZ n f) 1):az h 1 encB (.slice (some ⟨a,0,none⟩) n n) ((zO n).map f):=by refine .inr ⟨a,0,none,n,by simp,by simp,?_⟩;rw [R.load (by rw [tD];simp),Xt,List.take_of_length_le (by rw [tD];simp),List.flatMap_map];exact congrArg some List.map_eq_flatMap
theorem Ck{E:Env}{ρ:Operand->Value}{t:TypeId}{m k v:Operand}:aop E ρ h (.insert t m k v)=fU (d6 E h t (ρ m) (ρ k) (ρ v)):=rfl
def tQ(okW okF okT okX:Bool):Int:=if okW=true then(if okF=true then(if okT=true then(if okX=true then 0 else 19)else 18)else 17)else 16
theorem firstS_sf:qX (sfRs b1 bq okW okF okT okX)=tQ okW okF okT okX:=by cases okW<;>cases okF<;>cases okT<;>cases okX<;>rfl
def sfP(N:Nat)(l:List Int)(R Q:Nat->List Int)(a:List Int)(way:Int)(w:Nat):List Int:=if way=5 then(zO N).map (fun(v:Nat)=>iB N l.length R Q v w a)else []
theorem DU(h:tQ okW okF okT okX=0):okW=true/\okF=true/\okT=true/\okX=true:=by cases okW<;>cases okF<;>cases okT<;>cases okX<;>first|exact⟨rfl,rfl,rfl,rfl⟩|(exact absurd h (by decide))
theorem DE(a:OZ h0):aO zM 54 [ptrTo bq] h0 (.tuple #[.slice none 0 0,.slice none 0 0]):=by have S:=Si a;refine aa (n:=4) (rs:=[.tmp 2,.tmp 3]) rfl Tryz.e54 rfl rfl rfl (lbt rfl) ?_;simp only [BZ,ab,seval];exact S.gr
theorem Ez(B:OZ h0){C D j:Value}{way a:Int}{w:Nat}(d:Row h0 bq (sfC C D pn j way s w a) 1)(t:TabAt h0 m j N l R Q)(k: ∀i,i<l.length->(R i).length=N)(p: ∀i,i<l.length->(Q i).length=N)(E:l.length<=16)(M:N<=100)(O:s<N)(F:w<N):
 Ret zM 55 [ptrTo bq] h0 fun r h'=>Gr h0 h'/\ ∃e f,r=.tuple #[e,f]/\az h' 1 bK e (ii N l.length R Q s w a)/\az h' 1 (encI .i64) f ((zO N).map fun(v:Nat)=>iB N l.length R Q v w ((ii N l.length R Q s w a).map fun(x:Nat)=>(x:Int)))/\ ∀c,(aq e c\/aq f c)->h0.n<=c:=by
 have S:=Si B;have P:Fl j:=by obtain⟨b,_,_,_,rfl,_⟩:=t.ex;exact bD
 have u:=d.load1 (o:=3) rfl;have G:=d.load1 (o:=5) rfl;have y:=d.load1 (o:=6) rfl;have H:=d.load1 (o:=7) rfl;refine aa (n:=36) (rs:=[.tmp 2,.tmp 3]) rfl Tryz.e55 rfl rfl rfl (lbt rfl) ?_;simp only [BZ];refine ao (av rfl) (q:=0) (ps:=[]) (by kernel_rfl) ?_;simp only [BZ,cls,u,G,y,H,seval];refine bU (tO S.ok t k p E) ?_;rintro e h ⟨g,z,I⟩;replace S:=S.call g;have T:(ii N l.length R Q s w a).length<=16:=by unfold ii;rw [XO];omega
 have U:=g.n;simp only [BZ,cls,seval];refine ao (av rfl) (q:=0) (ps:=[]) (by kernel_rfl) ?_;simp only [BZ,cls,g.load u,g.load y,seval];refine bU (bPi_ok S.ok (t.gr g) k p (by omega) (by omega) (sG z) (by rw [Xp];omega) F) ?_;rintro f V ⟨A,J,K⟩;replace S:=S.call A;simp only [BZ,cls,ab,seval];exact⟨S.gr,_,_,rfl,z.gr A,J,fun c L=>L.elim (I c) (fun h=>by have:=K c h;omega)⟩
theorem DC  (ok:OZ h0) {bp nd:Nat} {j:Gra} (ak:Good j) (hn:aS h0 nb (ptrTo bp) j) {pt pc pf:Value}   (T:TabQ h0 pt nd l R Q) (hl:l.length<=16) (fc:Fl pc) (ff:Fl pf) {A:Bool} (F: ∀h,Gr h0 h->aO zM 42 [ptrTo bp,pc,pf] h (.bool A))
 {mb fp fb Z ad:Nat} {m:List Int} {cf:Nat->Nat} {Bt:Nat->Nat} (P:A=true->gG h0 mb pc j.nodes m cf/\pf=ptrTo fp/\eu h0 fp fb Z j.arcs.length ad Bt/\Z<=100/\ad=(j.arcs.length+7)/8/\ ∀v,v<j.nodes->cf v<Z) {way f a:Int}:
 Ret zM 14 [ptrTo bp,pt,.agg ⟨[pc,pf]⟩,.agg ⟨[.int .i64 way,.int .i64 f,.int .i64 t,.int .i64 a]⟩] h0 fun r h'=>Gr h0 h'/\ ∃c d vA vB vE,r=.tuple #[ansV c d vA vB,vE]/\(∀x,(aq vA x\/aq vB x\/aq vE x)->h0.n<=x)/\
  (((tQ (decide (way=4\/way=5)) (decide (0<=f/\f<j.nodes)) (decide (0<=t/\t<j.nodes)) (kC A way l.length nd j.nodes)≠0\/f=t)/\c=tQ (decide (way=4\/way=5)) (decide (0<=f/\f<j.nodes)) (decide (0<=t/\t<j.nodes)) (kC A way l.length nd j.nodes)/\d=0/\vA=.slice none 0 0/\vB=.slice none 0 0/\vE=.slice none 0 0)\/
   (tQ (decide (way=4\/way=5)) (decide (0<=f/\f<j.nodes)) (decide (0<=t/\t<j.nodes)) (kC A way l.length nd j.nodes)=0/\ ∃(s w:Nat) (N:Fd),f=s/\t=w/\s≠w/\s<j.nodes/\w<j.nodes/\
     Ends j.arcs (alF ((zO j.arcs.length).map (gu Bt ad (cf w)))) (piF (sfP j.nodes l R Q ((ii j.nodes l.length R Q f t a).map fun(x:Nat)=>(x:Int)) way w)) w (oL (piF (sfP j.nodes l R Q ((ii j.nodes l.length R Q f t a).map fun(x:Nat)=>(x:Int)) way w)) s) N/\
     az h' 4 iQ vE N.ev/\
     ((FAR<=N.dist/\c=20/\d=0/\vA=.slice none 0 0/\vB=.slice none 0 0)\/
      (N.dist<FAR/\c=0/\d=(N.dist:Nat)/\az h' 1 bK vA N.arcs/\az h' 1 bK vB (if way=5 then ii j.nodes l.length R Q f t a else []))))):=by
 have S:=Si ok;have dj:=gQ;have To:=T.tabO (by omega);have ft:Fl pt:=To.fl;have n1:=ak.n1;have n2:=ak.n2;have c4:=ak.many;obtain⟨cc,O⟩: ∃cc,tQ (decide (way=4\/way=5)) (decide (0<=f/\f<j.nodes)) (decide (0<=t/\t<j.nodes)) (kC A way l.length nd j.nodes)=cc:=⟨_,rfl⟩;refine aa (n:=84) (rs:=[.cell 8 43,.cell 9 44]) rfl Tryz.e14 rfl rfl rfl (lbt rfl) ?_;simp only [BZ,seval];refine ac (aV (by intro x e;cases e)) S ?_;clear S;intro h b6 S c5;simp only [ae]at S;simp only [BZ,if_false,seval];refine ac (aV (by intro x e;cases e)) S ?_;clear S;intro h b7 S c6;simp only [ae]at S;simp only [BZ];refine ac aA S ?_;clear S;intro h B S c9;simp only [BZ];refine ac aA S ?_;clear S;intro h C S da;simp only [BZ,ft,Xt,XG,XH,S.lds (b:=b6) (o:=0) (n:=2) m3 (lbt rfl),S.lds (b:=b7) (o:=0) (n:=4) m2 (lbt rfl),seval];refine ac (aV (by intro x e;cases e)) S ?_;clear S;intro h G S b3;simp only [ae]at S;have Rq:Row h G (sfC pc pf (ptrTo bp) pt way f t a) 1:=S.row (b:=G) m0;have gq:=S.gr;have dm:=S.ok;have R6:=S.row (b:=b6) m4;have R7:=S.row (b:=b7) m3;have R8:=S.row (b:=B) m2;have R9:=S.row (b:=C) m1;have b4:C≠B/\(b7≠B/\b7≠C)/\(b6≠B/\b6≠C)/\G≠B/\G≠C:=by have ap:=S.apart;simp [keys]at ap;omega
 obtain⟨E,n7,n6,nq⟩:=b4;rename Hp=>hq;simp only [BZ,seval];refine step_ret (looks_ok S.ok) ?_;rintro r V ⟨g,b1,rfl,dn,y1⟩;have gA:=gq.trans g;replace Rq:=Rq.gr g;replace R6:=R6.gr g;replace R7:=R7.gr g;replace R8:=R8.gr g;replace R9:=R9.gr g;have al:=gA.ok;clear S;have S:=Si al;have a5:=hn.gr gA;have b5:=(T.gr gA).tabO (show l.length<1000 by omega);have FA: ∀h,Gr V h->aO zM 42 [ptrTo bp,pc,pf] h (.bool A):=fun h g=>F h (gA.trans g);have s1:=sfNet_ok Rq y1;have s2:=sfWay_ok Rq y1;have s3:=sfFrom_ok a5 Rq y1;have s4:=sfTo_ok a5 Rq y1;have s5:=sfFits_ok a5 b5 Rq fc ff FA;have it:=looks1_it al y1 (okW:=decide (way=4\/way=5)) (okF:=decide (0<=f/\f<j.nodes)) (okT:=decide (0<=t/\t<j.nodes)) (okX:=kC A way l.length nd j.nodes);have e0:=firstS_sf (b1:=b1) (bq:=G) (okW:=decide (way=4\/way=5)) (okF:=decide (0<=f/\f<j.nodes)) (okT:=decide (0<=t/\t<j.nodes)) (okX:=kC A way l.length nd j.nodes);have bL: ∀r∈sfRs b1 G (decide (way=4\/way=5)) (decide (0<=f/\f<j.nodes)) (decide (0<=t/\t<j.nodes)) (kC A way l.length nd j.nodes),∀h,Gr V h->aO zM r.g (r.pre.toList++r.post.toList) h (.bool r.ok):=by
  intro r hr;simp only [sfRs,Xo,Xl,or_false]at hr;rcases hr with rfl|rfl|rfl|rfl|rfl
  . exact s1
  . exact s2
  . exact s3
  . exact s4
  . exact s5
 clear s1 s2 s3 s4 s5;generalize ca:sfRs b1 G (decide (way=4\/way=5)) (decide (0<=f/\f<j.nodes)) (decide (0<=t/\t<j.nodes)) (kC A way l.length nd j.nodes)=rs at it e0 bL;rw [O]at e0;have k8:=R8.lt al;have k9:=R9.lt al;simp only [BZ];refine iz S (g:=141) (a:=#[]) (b:=#[ptrTo b1]) (by simp [bF,aB,ah]) rfl rfl ?_;intro h2 H lb S' ds dt g2;obtain⟨X,hX,S'⟩: ∃X:fS,X=_/\St NoM V h2 [(lb,.loop X),(H,.dfr)] []:=⟨_,rfl,S'⟩;have hJ :Yld zM lb (fun k h' F=>St NoM V h' [(lb,.loop X),(H,.dfr)] []/\(∀q∈rs.take k,q.ok=true)/\F=keys [(lb,Ob.loop X),(H,.dfr)] [])
  (fun o h'=>o=.ret (.bool false)/\ ∃(Y:fS),cc≠0/\Y.st=2/\Y.pending=some .ret/\St (· ∈[C,B]) V h' [(lb,.loop Y),(H,.dfr),(C,.row [.slice none 0 0] 1),(B,.row [.int .i64 cc,.int .i64 0,.slice none 0 0,.slice none 0 0] 1)] []) (rs.map argS):=by
  refine⟨?_,?_,?_,?_⟩
  . rintro i h F ⟨S,_,rfl⟩;exact⟨S.ok,fun b J=>S.key_lt J⟩
  . rintro i h F h' ⟨S,a,rfl⟩ gg;exact⟨S.call gg,a,rfl⟩
  . rintro h h' ⟨a,Y,e1,e2,e3,S⟩ gg;exact⟨a,Y,e1,e2,e3,S.call gg⟩
  . rintro i x hR F hx ⟨S,ha,rfl⟩;have ax:i<rs.length:=(by have:=(List.getElem?_eq_some_iff.1 hx).1;simpa using this);rw [Xm,Xc ax]at hx;cases hx;have a6:=bL _ (Xi ax);have tk:rs.take (i+1)=rs.take i++[rs[i]]:=Xd ax;have a7:rs[i]? =some rs[i]:=Xc ax;generalize rs[i]=r at a6 tk a7;obtain⟨rg,dc,cb,ch,a8⟩:=r;simp only []at a6;subst hX;refine iw (S.get m0) (by rw [Tryz.e14];rfl) rfl ?_;have S0:=S;replace S:=S.base;simp only [BZ,seval];refine gC S (i:=0) rfl rfl rfl rfl rfl ?_;clear S;intro h S;simp only [LC]at S;simp only [BZ,seval];have cj:Gr V h:=(S0.rebase S).gr;refine ag (a6 _ cj) ?_;intro h3 g3;replace S:=S.call g3;cases ch with
    | true=>
      simp only [BZ,seval];refine dV S (i:=0) rfl ?_;clear S;intro h S;simp only [LC]at S;refine .inl ⟨rfl,_,⟨S0.rebase S,?_,rfl⟩,S.fr,S.key_new⟩;intro q hq;rw [tk]at hq;rcases List.mem_append.1 hq with hq|hq
      . exact ha q hq
      . rw [List.mem_singleton.1 hq]
    | false=>
      have ec:cc=a8:=(by rw [<-e0];exact firstS_at a7 ha Bool.false_ne_true);have W:cc≠0:=(by rw [ec];have hm:=List.mem_of_getElem? a7;rw [<-ca]at hm;simp only [sfRs,Xo,Xl,or_false,Rs.mk.injEq]at hm;rcases hm with⟨_,_,_,_,rfl⟩|⟨_,_,_,_,rfl⟩|⟨_,_,_,_,rfl⟩|⟨_,_,_,_,rfl⟩|⟨_,_,_,_,rfl⟩<;>decide);have U:=S0.rebase S;have gU:=U.gr;have ba:=R8.gr gU;have bb:=R9.gr gU;have ks: ∀c∈keys [(lb,Ob.loop _),(H,Ob.dfr)] [],V.n<=c:=fun c p=>(U.key_own p).elim (fun h=>h) (fun h=>h.elim);have U2:=((U.mono (M':=(· ∈[C,B])) (fun _ h=>h.elim)).push (b:=B) (o:=.row _ 1) (.inr (by simp)) ba (fun h=>by have:=ks _ h;omega)).push (b:=C) (o:=.row _ 1) (.inr (by simp)) bb (fun h=>by
       rcases List.mem_cons.1 h with h|h
       . have ap:C≠B:=E;exact ap h
       . have:=ks _ h;omega)
      clear S U;have S:=U2;clear U2;rw [<-ec];simp only [BZ,seval];refine aC (S.store (i:=1) rfl Tryz.t43.2.1 (by intro x e;cases e) rfl rfl (lbt rfl) ono) ?_;clear S;rintro h ⟨S,_⟩;simp only [LC,ae,lay,Xg,Xh,seval]at S;simp only [BZ,seval];refine aC (aE S (i:=0) rfl Tryz.t44.2.2.1 aU (Xe (lbt rfl)) ono) ?_;clear S;rintro h ⟨S,_⟩;simp only [LC]at S;simp only [BZ];refine round_ret S (i:=2) rfl ?_;clear S;intro h S;simp only [LC]at S;exact .inr (.inl ⟨rfl,⟨rfl,_,W,rfl,rfl,S.permL (XB (l₁:=[_,_]) (l₂:=[_,_]))⟩,S.ok⟩)
 have bP: ∀(b:Nat),b∈keys [(lb,Ob.loop X),(H,.dfr)] []-> ¬(b<V.n/\b=b1):=fun b J h=>(S'.key_own J).elim (fun h1=>by omega) (fun h=>h.elim);refine cK (it lb _ _ (fun v h hz=>by cases hz.1) hJ h2 _ ?_ ⟨S',by simp,rfl⟩) fun o rc h' y=>?_
 . exact⟨S'.ok,S'.fr.n,fun b J hd=>g2.get b J,bP,fun b J=>S'.key_lt J⟩
 . obtain ⟨_,⟨u,F',rfl,U,ha,rfl⟩|⟨u,rfl,hz,Y,W,st,pe,U⟩|⟨w,rfl,hz,_⟩⟩:=y
   . rw [Xp,Xn]at ha;have bc:cc=0:=(by rw [<-e0];exact Ea ha);subst hX;refine⟨_,U.get m0,XE,?_⟩;replace U:=U.dead;show Run _ _ _ _ _ _ _ _;have gU:=U.gr;have ba:=R8.gr gU;have bb:=R9.gr gU;have ks: ∀c∈keys [(H,Ob.dfr)] [],V.n<=c:=fun c p=>(U.key_own p).elim (fun h=>h) (fun h=>h.elim);have U2:=((U.mono (M':=(· ∈[C,B])) (fun _ h=>h.elim)).push (b:=B) (o:=.row _ 1) (.inr (by simp)) ba (fun h=>by have:=ks _ h;omega)).push (b:=C) (o:=.row _ 1) (.inr (by simp)) bb (fun h=>by
      rcases List.mem_cons.1 h with h|h
      . exact E h
      . have:=ks _ h;omega)
     have S:=U2.permL (L':=[(H,.dfr),(C,_),(B,_)]) (XB (l₁:=[_]) (l₂:=[_,_]));clear U U2 R8 R9 hJ it bP;have ay: ∀{x:Hp},Mo (· ∈[C,B]) V x->Gr h0 x:=fun f=>(gA.fr.trans f (fun c p=>.inr (by simp only [Xo,Xl,or_false]at p;omega)):Mo NoM h0 _).gr;have aL: ∀{x:Hp} {b:Nat} {l:List Value},Mo (· ∈[C,B]) V x->Row V b l 1->b≠B/\b≠C->Row x b l 1:=fun {x b l} f r e=>f.has (b:=b) (o:=.row l 1) r (by simp [e.1,e.2]);have a0:=(R7.gr gU).load1 (o:=1) rfl;have a1:=(R7.gr gU).load1 (o:=2) rfl;by_cases bd:f=t
     . subst bd;simp only [BZ,a0,a1,seval];refine aC (S.store (i:=2) rfl Tryz.t43.2.1 (by intro x e;cases e) rfl rfl (lbt rfl) ono) ?_;clear S;rintro h3 ⟨S,_⟩;simp only [LC,ae,lay,Xg,Xh,seval]at S;simp only [BZ,seval];refine aC (aE S (i:=1) rfl Tryz.t44.2.2.1 aU (Xe (lbt rfl)) ono) ?_;clear S;rintro h4 ⟨S,_⟩;simp only [LC]at S;simp only [BZ];refine dq (ij [H] _ (L:=[(C,_),(B,_)]) S.base fun h5 I=>?_);refine⟨rfl,(bw (by decide) (by simp only [aD,ah,seval];exact bj Tryz.t43.1 Tryz.t43.2.1 (I.lds (b:=B) (o:=0) (n:=4) m1 (lbt rfl)))).2 ((bw (by decide) (by simp only [aD,ah,seval];exact kW Tryz.t44.2.1 (I.ld (b:=C) (o:=0) m0 rfl))).2 (bS.2 ?_))⟩;have gZ:Gr h0 h5:=(gA.fr.trans (S.rebase I).fr (fun c p=>.inr (by simp only [Xo,Xl,or_false]at p;omega)):Mo NoM h0 h5).gr;exact⟨gZ,_,_,_,_,_,rfl,fun x hx=>(by rcases hx with h|h|h<;>exact h.elim),.inl ⟨.inr trivial,by rw [O,bc],rfl,rfl,rfl,rfl⟩⟩
     . obtain⟨w1,w2,w3,w4⟩:=DU (O.trans bc);have w1:=of_decide_eq_true w1;have w2:=of_decide_eq_true w2;have w3:=of_decide_eq_true w3;obtain⟨s,rfl⟩:=Xq w2.1;obtain⟨w,rfl⟩:=Xq w3.1;have hs:s<j.nodes:=(by omega);have hw:w<j.nodes:=(by omega);have be:s≠w:=fun e=>bd (by rw [e]);unfold kC at w4;rw [Bool.and_eq_true]at w4;obtain⟨ck,cl,bm,bf,bh,cm⟩:=P w4.1;subst cl;simp only [BZ,a0,a1,bd,seval];refine ac oa S ?_;clear S;intro h mm S dd;simp only [BZ,Ck,seval];refine aC (S.mputI (i:=0) rfl Tryz.t118.1 Tryz.t3.1 nJ _) ?_;clear S;rintro h3 ⟨bT,dv,c1,M1,S⟩;simp only [LC]at S;simp only [BZ,Ck,seval];refine aC (S.mputI (i:=0) rfl Tryz.t118.1 Tryz.t3.1 M1 _) ?_;clear S bT;rintro h3 ⟨bT,cn,c2,M2,S⟩;simp only [LC]at S;have cp:h3.get mm=some (.map cn c2):=(S.own _ m0).2;have cr:=(aL S.fr R7 n7).load1 (o:=0) rfl;have lk:=li (x:=way) Tryz.t118.1 Tryz.t3.1 (z:=.nilFunc) (by kernel_rfl) cp M2;replace S:=S.drop1;have cs:=ay S.fr;have dx:=S.fr.n;have de:H<h3.n:=S.key_lt (b:=H) (by simp [keys]);have bX:=S.ok;have cv:=aL S.fr Rq nq;have K: ∃gq:FuncId,dw zM h3 118 (.map (some mm)) (.int .i64 way) false=some (.func (.func gq) #[ptrTo G] #[])/\Ret zM gq [ptrTo G] h3 fun r h'=>Gr h3 h'/\ ∃vB vP,r=.tuple #[vB,vP]/\az h' 1 bK vB (if way=5 then ii j.nodes l.length R Q s w a else [])/\az h' 1 (encI .i64) vP (sfP j.nodes l R Q ((ii j.nodes l.length R Q s w a).map fun(x:Nat)=>(x:Int)) way w)/\ ∀c,(aq vB c\/aq vP c)->h3.n<=c:=by
        rcases w1 with rfl|rfl
        . refine⟨_,lk,(DE bX).mono fun r h' ⟨e,g⟩=>⟨g,_,_,e,.inl ⟨rfl,rfl⟩,.inl ⟨rfl,rfl⟩,fun c p=>p.elim (fun h=>h.elim) (fun h=>h.elim)⟩⟩
        . have w5:=w4.2;simp only [ne_eq,not_true_eq_false,decide_false,Bool.false_or,decide_eq_true_eq]at w5;obtain⟨cx,cz⟩:=w5;subst cz;obtain⟨m',t',lR,lQ⟩: ∃m',TabAt h0 m' pt j.nodes l R Q/\(∀i,i<l.length->(R i).length=j.nodes)/\ ∀i,i<l.length->(Q i).length=j.nodes:=by
           rcases T with h|⟨_,_,rfl⟩
           . exact h
           . simp at cx
          exact⟨_,lk,Ez bX cv (t'.gr cs) lR lQ hl (by omega) hs hw⟩
       obtain⟨gq,cA,K⟩:=K;simp only [BZ,cr,cA,seval];refine step_ret K ?_;rintro r h4 ⟨g4,vB,vP,rfl,sB,sP,bY⟩;replace S:=S.call g4;have dy:=g4.n;have cN:=S.fr.n;simp only [BZ,seval];have bi:=ay S.fr;have bk:=S.ok;have bn:=aL S.fr R7 n7;have bo:=aL S.fr R6 n6;have p7:=bn.lt bk;have p6:=bo.lt bk;have a0:=bn.load1 (o:=1) rfl;have a1:=bn.load1 (o:=2) rfl;have cO:=bo.load1 (o:=0) rfl;have cT:=bo.load1 (o:=1) rfl;have S0:=S;clear S;have S:=Si bk;rename Hp=>hR;refine ao (lS (ord:=[19,0,1,2,3,4,5,6,7,8,9,10,11,12,13,14,15,16,17,18,20,21]) rfl rfl (by simp only [eh,pE,fI,XQ,XR,List.map_toArray,XA,XD,cond_true,cond_false,seval];exact rfl)) (q:=1) (ps:=[(0,16),(5,13),(3,13),(0,13),(7,12),(5,12),(3,12),(0,12)]) (by kernel_rfl) ?_;simp only [BZ,cls,seval];refine df aA S ?_;clear S;intro h M S cW br;have cX:=(S.row (b:=M) m0).lt S.ok;have gB:=S.gr;have nB:=gB.n;simp only [BZ,cls,gB.load a0,gB.load a1,gB.load cO,gB.load cT,seval];refine bz (uO S.ok ((ck.gr bi).gr gB) hw) ?_;intro h g;have e1:=am g (show b6<_ by omega);have e2:=am g (show b7<_ by omega);have e3:=am g cX;have dF:=g.n;replace S:=S.call g;simp only [BZ,cls,seval];refine bU (allowF_ok S.ok ((bm.gr bi).gr S.gr) (cm w hw) bf (by omega) bh) ?_;rintro r h ⟨af,bl,rfl,RA,nA⟩;have e4:=am af (show b6<_ by omega);have e5:=am af (show b7<_ by omega);have e6:=am af (show M<_ by omega);have dO:=af.n;replace S:=S.call af;have cY:=slB_of RA;simp only [BZ,cls,sP.fl,seval];refine bU (tR S.ok ak ((hn.gr bi).gr S.gr) hs hw cY (.inr (by simp)) (sP.gr S.gr) (by unfold sfP;split;exact .inr (by simp);exact .inl rfl)) ?_;rintro r h ⟨a2,v,N,rfl,⟨xA,xE,rfl,G1,G2,d1,d2⟩,he⟩;have e7:=am a2 (show b6<_ by omega);have e8:=am a2 (show b7<_ by omega);have e9:=am a2 (show M<_ by omega);have bs:Fl xA:=G1.fl;have bt:Fl xE:=G2.fl;replace S:=S.call a2;simp only [BZ,cls,seval];refine cM (S.store (i:=0) rfl Tryz.t96.2.1 (by intro x e;cases e) rfl (by simp only [ae,Xr,Xs,bs.2.1,bt.2.1,Xb];rfl) (lbt rfl) ono) ?_;have a4: ∀c,aq xA c\/aq xE c->c≠M:=fun c p e=>(by have h1:_<=c:=p.elim (fun h=>(d1 c h).1) (fun h=>d2 c h);omega);clear S;rintro a3 ⟨S,mo⟩;simp only [LC,ae,lay,Xg,Xh,seval]at S;simp only [BZ,cls,seval];refine⟨by simp only [aJ,aR,aH,aT,aI,ne_eq,not_false_eq_true,aY,bC,aQ,aN,bF,bW,aD,Xb,ah,gJ,au e1,ar e1,au e2,ar e2,au e3,ar e3,au e4,ar e4,au e5,ar e5,au e6,ar e6,au e7,ar e7,au e8,ar e8,au e9,ar e9,<-br,seval],?_⟩;have bu:=S.row (b:=M) m0;have c0:az a3 1 bK xA N.arcs:=(G1.sl rfl dC (by decide)).mo mo (fun c p e=>a4 c (.inl p) e);have b0:az a3 4 iQ xE N.ev:=(G2.sl rfl qS (by decide)).mo mo (fun c p e=>a4 c (.inr p) e);have c3:=sB.gr S.gr;have j0:=bu.load1 (o:=0) rfl;have j1:=bu.load1 (o:=1) rfl;have j2:=bu.load1 (o:=2) rfl;have S1:=S0.call S.gr;have D:M≠B/\M≠C:=⟨fun e=>by omega,fun e=>by omega⟩;clear S;have S:=S1;clear S1;have d0:H<hR.n:=S0.key_lt (b:=H) (by simp [keys]);have d3:V.n<=hR.n:=S0.fr.n;have d4:=gA.n;have b2:=(he.resolve_left (fun h=>be h.1)).2;have W:=O.trans bc;by_cases hd:N.dist<FAR
       . have bv: ¬(72057594037927936:Int)<=(N.dist:Int):=(by omega);simp only [BZ,j0,bv,seval];refine ao (av rfl) (q:=0) (ps:=[(7,8)]) (by kernel_rfl) ?_;simp only [BZ,cls,j0,j1,j2,bs,sB.fl,seval];refine cM (S.store (i:=2) rfl Tryz.t43.2.1 (by intro x e;cases e) rfl (by simp only [ae,Xr,Xs,bs.2.1,sB.fl.2.1,Xb];rfl) (lbt rfl) ono) ?_;clear S;rintro h5 ⟨S,bx⟩;simp only [LC,ae,lay,Xg,Xh,seval]at S;simp only [BZ,cls,seval];refine cM (aE S (i:=1) rfl Tryz.t44.2.2.1 bt (Xe (lbt rfl)) ono) ?_;clear S;rintro h6 ⟨S,bB⟩;simp only [LC]at S;simp only [BZ,seval];refine⟨by simp only [aJ,aR,aH,aT,aI,ne_eq,not_false_eq_true,aY,bC,aQ,aN,bF,bW,aD,Xb,ah,gJ,c8 D.1,c8 D.1.symm,c8 D.2,c8 D.2.symm,c8 E,c8 E.symm,seval],?_⟩;refine dq (ij [H] _ (L:=[(C,_),(B,_)]) S.base fun h7 I=>?_);refine⟨rfl,(bw (by decide) (by simp only [aD,ah,seval];exact bj Tryz.t43.1 Tryz.t43.2.1 (I.lds (b:=B) (o:=0) (n:=4) m1 (lbt rfl)))).2 ((bw (by decide) (by simp only [aD,ah,seval];exact kW Tryz.t44.2.1 (I.ld (b:=C) (o:=0) m0 rfl))).2 (bS.2 ?_))⟩;have gZ:=ay (S.rebase I).fr;have bE: ∀{α:Type} {k:Nat} {ai:α->List Value} {u:Value} {xs:List α},az a3 k ai u xs->(∀c,aq u c->c≠B/\c≠C/\c≠H)->az h7 k ai u xs:=fun s J=>((s.mo bx (fun c p e=>(J c p).1 e)).mo bB (fun c p e=>(J c p).2.1 e)).mo I.fr (fun c p hm=>by
          have:=J c p;simp [keys]at hm;omega)
         have zE:=bE b0 (fun c p=>by have:=d2 c p;exact⟨by omega,by omega,by omega⟩);have zA:=bE c0 (fun c p=>by have:=(d1 c p).1;exact⟨by omega,by omega,by omega⟩);have zB:=bE c3 (fun c p=>by have:=bY c (.inl p);have:=cN;exact⟨by omega,by omega,fun e=>by omega⟩);exact⟨gZ,_,_,_,_,_,rfl,fun x hx=>(by rcases hx with h|h|h;(have:=(d1 x h).1;omega);(have:=bY x (.inl h);omega);(have:=d2 x h;omega)),.inr ⟨W,s,w,N,rfl,rfl,be,hs,hw,b2,zE,.inr ⟨hd,rfl,rfl,zA,zB⟩⟩⟩
       . have bv:(72057594037927936:Int)<=(N.dist:Int):=(by omega);simp only [BZ,j0,bv,seval];refine ao (av rfl) (q:=0) (ps:=[(2,3)]) (by kernel_rfl) ?_;simp only [BZ,cls,j2,seval];refine cM (S.store (i:=2) rfl Tryz.t43.2.1 (by intro x e;cases e) rfl (rfl) (lbt rfl) ono) ?_;clear S;rintro h5 ⟨S,bx⟩;simp only [LC,ae,lay,Xg,Xh,seval]at S;simp only [BZ,cls,seval];refine cM (aE S (i:=1) rfl Tryz.t44.2.2.1 bt (Xe (lbt rfl)) ono) ?_;clear S;rintro h6 ⟨S,bB⟩;simp only [LC]at S;simp only [BZ,seval];refine⟨by simp only [aJ,aR,aH,aT,aI,ne_eq,not_false_eq_true,aY,bC,aQ,aN,bF,bW,aD,Xb,ah,gJ,c8 D.1,c8 D.1.symm,c8 D.2,c8 D.2.symm,c8 E,c8 E.symm,seval],?_⟩;refine dq (ij [H] _ (L:=[(C,_),(B,_)]) S.base fun h7 I=>?_);refine⟨rfl,(bw (by decide) (by simp only [aD,ah,seval];exact bj Tryz.t43.1 Tryz.t43.2.1 (I.lds (b:=B) (o:=0) (n:=4) m1 (lbt rfl)))).2 ((bw (by decide) (by simp only [aD,ah,seval];exact kW Tryz.t44.2.1 (I.ld (b:=C) (o:=0) m0 rfl))).2 (bS.2 ?_))⟩;have gZ:=ay (S.rebase I).fr;have bE: ∀{α:Type} {k:Nat} {ai:α->List Value} {u:Value} {xs:List α},az a3 k ai u xs->(∀c,aq u c->c≠B/\c≠C/\c≠H)->az h7 k ai u xs:=fun s J=>((s.mo bx (fun c p e=>(J c p).1 e)).mo bB (fun c p e=>(J c p).2.1 e)).mo I.fr (fun c p hm=>by
          have:=J c p;simp [keys]at hm;omega)
         have zE:=bE b0 (fun c p=>by have:=d2 c p;exact⟨by omega,by omega,by omega⟩);exact⟨gZ,_,_,_,_,_,rfl,fun x hx=>(by rcases hx with h|h|h;exact h.elim;exact h.elim;(have:=d2 x h;omega)),.inr ⟨W,s,w,N,rfl,rfl,be,hs,hw,b2,zE,.inl ⟨by omega,rfl,rfl,rfl,rfl⟩⟩⟩
   . refine⟨Y,U.get m0,by rw [st];decide,?_⟩;rw [pe];replace U:=U.dead;show Run _ _ _ _ _ _ _ _;simp only [BZ];refine dq (ij [H] _ (L:=[(C,_),(B,_)]) U.base fun h5 I=>?_);refine⟨rfl,(bw (by decide) (by simp only [aD,ah,seval];exact bj Tryz.t43.1 Tryz.t43.2.1 (I.lds (b:=B) (o:=0) (n:=4) m1 (lbt rfl)))).2 ((bw (by decide) (by simp only [aD,ah,seval];exact kW Tryz.t44.2.1 (I.ld (b:=C) (o:=0) m0 rfl))).2 (bS.2 ?_))⟩;have gZ:Gr h0 h5:=(gA.fr.trans (U.rebase I).fr (fun c p=>.inr (by simp only [Xo,Xl,or_false]at p;omega)):Mo NoM h0 h5).gr;exact⟨gZ,_,_,_,_,_,rfl,fun x hx=>(by rcases hx with h|h|h<;>exact h.elim),.inl ⟨.inl (by rw [O];exact W),by rw [O],rfl,rfl,rfl,rfl⟩⟩
   . cases hz
theorem toR_len{a:Gra}:(toR a l i).length=a.nodes:=by unfold toR;exact tU _ _ _
theorem frR_len{a:Gra}:(frR a l i).length=a.nodes:=by unfold frR;exact tU _ _ _
theorem Eb{l e f:Nat}{m:List Int}{p q:Nat->Nat}(b:Good d)(r:aS h0 l (ptrTo j) d)(c:gG h0 n (ptrTo e) d.nodes m p)(i:gP m+1=((f:Nat):Int))(s:eu h0 k o f d.arcs.length a q): ∀h,Gr h0 h->aO zM 42 [ptrTo j,ptrTo e,ptrTo k] h (.bool true):=by intro h g;have u:=b.n2;have t:=c.len;have:=wI g.ok (r.gr g) (.inr ⟨⟨_,c.at0.gr g⟩,i.symm⟩:mP h (ptrTo e) m (f:Int)) (s.gr g).bits b.n1 (by omega);rw [t]at this;simpa using this
structure Rl where
 g:FuncId
 post:Array Value
 ok:Bool
 code:Int
def encR(r:Rl):List Value:=[.func (.func r.g) #[] r.post,.int .i64 r.code]
theorem encR_len(r:Rl):(encR r).length=2:=rfl
def pX:List Rl->Int
 | []=>0|r::l=>if r.ok=true then pX l else r.code
theorem Dn{rs:List Rl}(a:i<rs.length):pX (rs.drop i)=if rs[i].ok=true then pX (rs.drop (i+1))else rs[i].code:=by rw [XN a];rfl
theorem CL  (q:OZ h0)  {rs:List Rl} (g:az h0 2 encR v rs) (C:rs.length<1000) (s: ∀i (t:i<rs.length),(∀j,j<i->(rs.getD j ⟨0,#[],false,0⟩).ok=true)-> ∀h,Gr h0 h->aO zM rs[i].g rs[i].post.toList h (.bool rs[i].ok)):
 aO zM 106 [v] h0 (.int .i64 (pX rs)):=by
 have S:=Si q;refine aa (n:=18) (rs:=[.tmp 2]) rfl Tryz.e106 rfl rfl rfl (lbt rfl) ?_;simp only [BZ,g.lenq,seval];refine aW (fun(i:Nat) d h=>i<=rs.length/\St NoM h0 h [] []/\pX rs=pX (rs.drop i)/\(∀j,j<i->(rs.getD j ⟨0,#[],false,0⟩).ok=true)/\d 5=v/\d 6=.int .i64 (rs.length:Nat)/\d 7=.int .i64 i) (fun i=>rs.length-i) ?_ 0 _ _ ?_
 . clear S;intro i u d h ⟨t,S,e,hb,r5,r6,r7⟩;have w:an .i64 ((i:Int)+1)=((i+1:Nat):Int):=(by rw [wrap64]<;>omega);by_cases hlt:i<rs.length
   . obtain⟨c,o,x,y⟩:=(g.gr S.gr).ix (kd:=.i64) encR_len hlt;have k:=s i hlt hb;have a:rs.getD i ⟨0,#[],false,0⟩=rs[i]:=(by rw [Xf,Xc hlt];rfl);rw [Dn hlt]at e;generalize rs[i]=r at k y e a;have l:=S.gr;have Sx:=S;replace S:=Si S.ok;simp only [BZ,r5,r6,r7,aF,hlt,x,y,encR,seval];refine ac aA S ?_;clear S;intro h m S p;simp only [BZ,seval];refine aC (S.store (i:=0) rfl ?_ ?_ rfl rfl ?_ ono) ?_
     . exact(by exact Tryz.t188.2.1)
     . exact(by intro x e;cases e)
     . exact lbt rfl
     clear S;rintro h ⟨S,z⟩;clear z;simp only [LC,ae,lay,Xg,Xh,seval]at S;simp only [BZ,S.ld (b:=m) (o:=0) m0 rfl,seval];refine ag (k _ (l.trans S.gr)) ?_;intro D A;replace S:=S.call A;cases f:r.ok with
     | true=>
       rw [f,if_pos rfl]at e;simp only [BZ,r7,w,seval];exact u (i+1) _ _ (by omega) ⟨by omega,Sx.call S.gr,e,fun j B=>by
        rcases Nat.lt_or_ge j i with h|h
        . exact hb j h
        . rw [show j=i by omega,a];exact f,by simp [aB,r5,r6]⟩
     | false=>rw [f,if_neg Bool.false_ne_true]at e;simp only [BZ,ab,S.ld (b:=m) (o:=1) m0 rfl,seval];exact⟨by rw [e],l.trans S.gr⟩
   . simp only [BZ,ab,r6,r7,aF,hlt,seval];have:i=rs.length:=(by omega);subst this;rw [List.drop_length]at e;exact⟨by rw [e];rfl,S.gr⟩
 . exact⟨Xk _,S,rfl,fun j B=>by omega,by simp [aB,cG]⟩
theorem BQ{f:Nat}{i:Gra}{l:Nat}(c:aS hq l (ptrTo f) i){v:Int}(a:hq.load b2 0 1=some [.int .i64 v])(b:hq.load b3 0 1=some [ptrTo f]): ∀h,Gr hq h->aO zM 105 [ptrTo b2,ptrTo b3] h (.bool (decide (0<=v/\v<i.nodes))):=by
 intro h g;have S:=Si g.ok;have m:=bA g.ok (g.load a);have o:=bA g.ok (g.load b);refine aa (n:=11) (rs:=[.tmp 2]) rfl Tryz.e105 rfl rfl rfl (lbt rfl) ?_;simp only [BZ];refine ao (av rfl) (q:=0) (ps:=[(3,5)]) (by kernel_rfl) ?_;by_cases d:0<=v
 . simp only [BZ,cls,g.load a,g.load b,d,seval];refine bz (bM S.ok ((c.gr g).gr S.gr)) ?_;intro p e;have j:=am e m;have k:=am e o;replace S:=S.call e;simp only [BZ,cls,ab,seval];refine⟨by simp only [aJ,aR,aH,aT,aI,ne_eq,not_false_eq_true,aY,bC,aN,kw,bF,bW,aD,ah,dh,j9,sa,Xb,ar j,au j,ar k,au k,seval],S.gr⟩
 . simp only [BZ,cls,ab,g.load a,g.load b,d,seval];refine⟨by simp only [aJ,aR,aH,aT,aI,ne_eq,not_false_eq_true,aY,bC,aN,kw,bF,bW,aD,ah,dh,j9,sa,Xb,seval],by simp [d],S.gr⟩
theorem node_ok(b:OZ h0){v:Int}:Ret zM 104 [.int .i64 v,ptrTo b3] h0 fun r h'=>Gr h0 h'/\ ∃b2,r=.func (.func 105) #[] #[ptrTo b2,ptrTo b3]/\h'.load b2 0 1=some [.int .i64 v]:=by have S:=Si b;refine aa (n:=5) (rs:=[.tmp 3]) rfl Tryz.e104 rfl rfl rfl (lbt rfl) ?_;simp only [BZ,seval];refine ac (bJ (by exact aZ)) S ?_;clear S;intro h b2 S a;simp only [BZ,ab,seval];exact⟨S.gr,b2,rfl,S.ld m0 rfl⟩
def isP:Value->Bool
 | .pointer none=>false|_=>true
theorem net2_ok(c:(∃b,p=ptrTo b)\/p=.pointer none)(a:hq.load b3 0 1=some [p]): ∀h,Gr hq h->aO zM 107 [ptrTo b3] h (.bool (isP p)):=by
 intro h g;have S:=Si g.ok;refine aa (n:=4) (rs:=[.tmp 1]) rfl Tryz.e107 rfl rfl rfl (lbt rfl) ?_;rcases c with⟨d,rfl⟩|rfl
 . simp only [BZ,ab,g.load a,seval];exact⟨rfl,S.gr⟩
 . simp only [BZ,ab,g.load a,seval];exact⟨rfl,S.gr⟩
theorem tab3_ok{s:Gra}{B:Nat}(c:aS hq B (ptrTo m) s)(T:TabO zM hq p o mk 41 40)(e:hq.load b4 0 1=some [p])(d:hq.load b3 0 1=some [ptrTo m]): ∀h,Gr hq h->aO zM 108 [ptrTo b4,ptrTo b3] h (.bool (decide (0<mk/\o=s.nodes))):=by
 intro h g;have C:=T.fl;have S:=Si g.ok;have f:=bA g.ok (g.load e);have i:=bA g.ok (g.load d);refine aa (n:=14) (rs:=[.tmp 2]) rfl Tryz.e108 rfl rfl rfl (lbt rfl) ?_;simp only [BZ];refine ao (av rfl) (q:=0) (ps:=[(6,7)]) (by kernel_rfl) ?_;simp only [BZ,cls,g.load e,g.load d,seval];refine bU (T.marks _ (g.trans S.gr)) ?_;rintro r D ⟨a,l,t,E⟩;replace S:=S.call a;have u:=am a f;have v:=am a i;by_cases w:0<mk
 . have j:(0:Int)<(l.length:Int):=(by omega);simp only [BZ,cls,t.lenq,j,a.load (g.load e),a.load (g.load d),seval];refine bz (T.nodes _ (g.trans S.gr)) ?_;intro F b;have x:=am b (Xa f a.n);have y:=am b (Xa i a.n);replace S:=S.call b;simp only [BZ,cls,b.load (a.load (g.load d)),seval];refine bz (bM S.ok ((c.gr g).gr S.gr)) ?_;intro G k;have z:=am k (Xa f (a.trans b).n);have A:=am k (Xa i (a.trans b).n);replace S:=S.call k;simp only [BZ,cls,ab,seval];refine⟨by simp only [aJ,aR,aH,aT,aI,ne_eq,not_false_eq_true,aY,bC,aQ,aN,bF,bW,aD,Xb,ah,dh,ar v,au v,ar u,au u,ar y,au y,ar x,au x,ar A,au A,ar z,au z,seval],?_⟩;exact⟨by simp [w,Int.ofNat_inj],S.gr⟩
 . have j: ¬(0:Int)<(l.length:Int):=(by omega);simp only [BZ,cls,ab,t.lenq,j,seval];refine⟨by simp only [aJ,aR,aH,aT,aI,ne_eq,not_false_eq_true,j9,sa,Xb,seval],by simp [w],S.gr⟩
def yK(p:Value)(N a mk:Nat)(f t:Int):Int:=if isP p=true then lW N a mk f t else 1
theorem TabO.gr{E:Env}{a:Value}{c d:FuncId}(T:TabO E h a b mk c d)(g:Gr h h'):TabO E h' a b mk c d:=⟨T.fl,fun x k=>T.marks x (g.trans k),fun x k=>T.nodes x (g.trans k)⟩
theorem firstC4{f:Int}{d e h:FuncId}{a1 a2 a3 i:Array Value}:pX [⟨d,a1,isP p,1⟩,⟨e,a2,decide (0<=f/\f<N),17⟩,⟨g,a3,decide (0<=t/\t<N),18⟩,⟨h,i,decide (0<mk/\b=N),19⟩]=yK p N b mk f t:=by
 simp only [pX,yK,lW,decide_eq_true_eq];cases isP p with
 |false=>rfl| true=>
   simp only [if_true];by_cases a:0<=f/\f<(N:Int)
   . by_cases c:0<=t/\t<(N:Int)
     . simp only [a,c,not_true_eq_false,if_false,and_self,if_true]
     . simp only [a,c,not_true_eq_false,not_false_eq_true,if_false,and_self,if_true]
   . simp only [a,not_false_eq_true,if_false,if_true]
theorem CQ(ok:OZ h0){K L:Value}{A:Nat}{f a:Int}(fq:Fl L)(k:(∃j l w,p=ptrTo j/\aS h0 w (ptrTo j) l/\N=l.nodes)\/p=.pointer none)(T:TabO zM h0 K A mk 41 40):
 aO zM 43 [p,K,.agg ⟨[L,.int .i64 f,.int .i64 t,.int .i64 a]⟩] h0 (.int .i64 (yK p N A mk f t)):=by
 have fp:Fl p:=by rcases k with⟨_,_,_,rfl,_⟩|rfl<;>exact bD
 have ft:=T.fl;have S:=Si ok;refine aa (n:=25) (rs:=[.tmp 6]) rfl Tryz.e43 rfl rfl rfl (lbt rfl) ?_;simp only [BZ,seval];refine ac (bJ (by assumption)) S ?_;clear S;intro h m S M;simp only [BZ,if_false,seval];refine ac (bJ (by assumption)) S ?_;clear S;intro h O S P;simp only [BZ,if_false,seval];refine ac (aV (by intro x e;cases e)) S ?_;clear S;intro h r S Q;simp only [ae]at S;have R:=S.gr;have B:=S.ok;have r3:=S.ld (b:=m) (o:=0) m2 rfl;have r4:=S.ld (b:=O) (o:=0) m1 rfl;have C:=S.ld (b:=r) (o:=1) m0 rfl;have D:=S.ld (b:=r) (o:=2) m0 rfl;have U:=(S.row (b:=r) m0).lt S.ok;clear S;rename Hp=>hq;have S:=Si B;simp only [BZ,seval];refine ao (av rfl) (q:=16384) (ps:=[(5,9)]) (by kernel_rfl) ?_;simp only [BZ,cls,C,seval];refine bU (node_ok S.ok) ?_;rintro v1 h ⟨g,x1,rfl,E⟩;have V:leaves _ _ r=true:=am g U;have k1:=g.n;replace S:=S.call g;simp only [BZ,cls,g.load D,seval];clear g;refine bU (node_ok S.ok) ?_;rintro v2 h ⟨g,x2,rfl,l2⟩;have W:leaves _ _ r=true:=am g (Xa U k1);replace S:=S.call g;replace E:=g.load E;simp only [BZ,cls,seval];have y:=S.gr;have F:=S.ok;clear S g;rename Hp=>hA;have S:=Si F;refine df (ce (by exact Tryz.t257.1) (by exact Tryz.e188E) (by decide) (by rfl)) S ?_;clear S;intro h X S Y Z;simp only [LC,bH,cg,ae,XF,Xx,Xv,XI,seval]at S;have s:=S.gr;have G:=S.ok;have d:=s.load (y.load r3);have H:=s.load (y.load r4);have I:=s.load E;have J:=s.load l2;have z:=(R.trans y).trans s;simp only [BZ,cls,seval];refine bz (CL G (rs:=[⟨107,#[ptrTo m],isP p,1⟩,⟨105,#[ptrTo x1,ptrTo m],decide (0<=f/\f<N),17⟩,⟨105,#[ptrTo x2,ptrTo m],decide (0<=t/\t<N),18⟩,⟨108,#[ptrTo O,ptrTo m],decide (0<mk/\A=N),19⟩]) (.inr ⟨X,0,none,4,rfl,Xz _,S.lds (b:=X) (o:=0) (n:=4*2) m0 (lbt rfl)⟩) (by simp) (fun i hi=>?_)) ?_
 . have ad:i<4:=hi;rcases(by omega:i=0\/i=1\/i=2\/i=3)with rfl|rfl|rfl|rfl
   . intro _;refine net2_ok ?_ d;rcases k with⟨j,_,_,rfl,_⟩|rfl
     . exact .inl ⟨j,rfl⟩
     . exact .inr rfl
   . intro u;have v:isP p=true:=u 0 (by omega);rcases k with⟨j,l,w,rfl,c,rfl⟩|rfl
     . exact BQ (c.gr z) I d
     . cases v
   . intro u;have v:isP p=true:=u 0 (by omega);rcases k with⟨j,l,w,rfl,c,rfl⟩|rfl
     . exact BQ (c.gr z) J d
     . cases v
   . intro u;have v:isP p=true:=u 0 (by omega);rcases k with⟨j,l,w,rfl,c,rfl⟩|rfl
     . exact tab3_ok (c.gr z) (T.gr z) H d
     . cases v
 . intro h g;rw [firstC4];replace S:=S.call g;simp only [BZ,cls,ab,seval];refine⟨by simp only [aJ,aR,aH,aT,aI,ne_eq,not_false_eq_true,aY,bC,aQ,aN,bF,bW,aD,Xb,ah,au V,ar V,au W,ar W,seval],?_⟩;exact(R.trans y).trans S.gr
theorem Dr(ok:OZ h0){V:Nat}{j:Gra}(K:Good j)(hn:aS h0 nb (ptrTo V) j){W q0:Value}(T:TabQ h0 W E l R Q)(hl:l.length<=16)(fq:Fl q0){f a:Int}:
 Ret zM 11 [ptrTo V,W,.agg ⟨[q0,.int .i64 f,.int .i64 t,.int .i64 a]⟩] h0 fun r h'=>Gr h0 h'/\ ∃c d vA J vE,r=.tuple #[ansV c d vA J,vE]/\(∀x,(aq vA x\/aq J x\/aq vE x)->h0.n<=x)/\
  (((lW j.nodes E l.length f t≠0\/f=t)/\c=lW j.nodes E l.length f t/\d=0/\vA=.slice none 0 0/\J=.slice none 0 0/\vE=.slice none 0 0)\/
   (lW j.nodes E l.length f t=0/\f≠t/\ ∃(s w:Nat) (k:Fd),f=s/\t=w/\s<j.nodes/\w<j.nodes/\E=j.nodes/\
     Ends j.arcs (alF []) (piF ((zO j.nodes).map fun(v:Nat)=>iB j.nodes l.length R Q v w ((ii j.nodes l.length R Q f t a).map fun(x:Nat)=>(x:Int)))) w (oL (piF ((zO j.nodes).map fun(v:Nat)=>iB j.nodes l.length R Q v w ((ii j.nodes l.length R Q f t a).map fun(x:Nat)=>(x:Int)))) s) k/\
     az h' 4 iQ vE k.ev/\
     ((FAR<=k.dist/\c=20/\d=0/\vA=.slice none 0 0/\J=.slice none 0 0)\/
      (k.dist<FAR/\c=0/\d=(k.dist:Nat)/\az h' 1 bK vA k.arcs/\az h' 1 bK J (ii j.nodes l.length R Q f t a))))):=by
 have S:=Si ok;have ft:Fl W:=(T.tabO (by omega)).fl;refine aa (n:=64) (rs:=[.cell 6 43,.tmp 7]) rfl Tryz.e11 rfl rfl rfl (lbt rfl) ?_;simp only [BZ,seval];refine ac (aV (by intro x e;cases e)) S ?_;clear S;intro h C S a1;simp only [ae]at S;simp only [BZ];refine ac aA S ?_;clear S;intro h F S a2;simp only [BZ,Xt,XG,XH,S.lds (b:=C) (o:=0) (n:=4) m1 (lbt rfl),seval];refine ag (CQ S.ok fq (.inl ⟨V,j,nb,rfl,hn.gr S.gr,rfl⟩) ((T.gr S.gr).tabO (by omega)) (a:=a) (f:=f) (t:=t)) ?_;intro h g;have eW:yK (.pointer (some ⟨V,0,none⟩)) j.nodes E l.length f t=lW j.nodes E l.length f t:=rfl;rw [eW];obtain⟨c,p⟩: ∃c,lW j.nodes E l.length f t=c:=⟨_,rfl⟩;rw [p];replace S:=S.call g;clear g;by_cases c0:c=0
 . subst c0;by_cases z:f=t
   . subst z;simp only [BZ,S.ld (b:=C) (o:=1) m1 rfl,S.ld (b:=C) (o:=2) m1 rfl,seval];refine aC (S.store (i:=0) rfl Tryz.t43.2.1 (by intro x e;cases e) rfl rfl (lbt rfl) ono) ?_;clear S;rintro X ⟨S,Y⟩;simp only [LC,ae,lay,Xg,Xh,seval]at S;simp only [BZ,ab];refine(bw (by decide) (by simp only [aD,ah,seval];exact bj Tryz.t43.1 Tryz.t43.2.1 (S.lds (b:=F) (o:=0) (n:=4) m0 (lbt rfl)))).2 ?_;refine(dX (by decide)).2 (bS.2 ?_);exact⟨S.gr,_,_,_,_,_,rfl,fun x h=>by rcases h with h|h|h<;>exact h.elim,.inl ⟨.inr trivial,rfl,rfl,rfl,rfl,rfl⟩⟩
   . obtain⟨ad,af,ai,ak⟩:=EG p;obtain⟨s,rfl⟩:=Xq ad.1;obtain⟨w,rfl⟩:=Xq af.1;have hs:s<j.nodes:=(by omega);have Z:w<j.nodes:=(by omega);have L:s≠w:=fun e=>z (by rw [e]);subst ak;obtain⟨m,t,lR,lQ⟩: ∃m,TabAt h0 m W j.nodes l R Q/\(∀i,i<l.length->(R i).length=j.nodes)/\ ∀i,i<l.length->(Q i).length=j.nodes:=by
      rcases T with h|⟨_,_,rfl⟩
      . exact h
      . simp at ai
     simp only [BZ,z,S.ld (b:=C) (o:=1) m1 rfl,S.ld (b:=C) (o:=2) m1 rfl,S.ld (b:=C) (o:=3) m1 rfl,seval];have k6:=(S.row (b:=F) m0).lt S.ok;have kB:=S.fr.n;refine step_ret (tO S.ok (t.gr S.gr) lR lQ hl) ?_;rintro J h ⟨g,sB,nB⟩;replace S:=S.call g;clear g;have la:(ii j.nodes l.length R Q s w a).length<=16:=(by unfold ii;rw [XO];omega);have R5:=S.row (b:=C) m1;have R6:=S.row (b:=F) m0;have S0:=S;have gV:=S.gr;have u:=S.ok;have al:=R5.load1 (o:=1) rfl;have ax:=R5.load1 (o:=2) rfl;have p5:=R5.lt u;have f1:=K.n2;simp only [BZ,seval];clear S;have S:=Si u;rename Hp=>hV;refine ao (lS (ord:=[15,0,1,2,3,4,5,6,7,8,9,10,11,12,13,14,16,17]) rfl rfl (by simp only [eh,pE,fI,XQ,XR,List.map_toArray,XA,XD,cond_true,cond_false,seval];exact rfl)) (q:=1) (ps:=[(0,12),(5,10),(3,10),(0,10)]) (by kernel_rfl) ?_;simp only [BZ,cls,seval];refine df aA S ?_;clear S;intro h y S ay H;have M:=S.fr.n;have gB:=S.gr;have A:=S.row (b:=y) m0;have N:=A.lt S.ok;simp only [BZ,cls,gB.load al,gB.load ax,seval];refine bU (bPi_ok S.ok ((t.gr gV).gr gB) lR lQ (by omega) (by omega) (sG (sB.gr gB)) (by rw [Xp];omega) Z) ?_;rintro vP h ⟨g,sP,nP⟩;have e1:leaves _ _ C=true:=am g (Xa p5 M);have e2:leaves _ _ y=true:=am g N;have kq:=g.n;replace S:=S.call g;clear g;simp only [BZ,cls,sP.fl,seval];refine bU (tR S.ok K ((hn.gr gV).gr S.gr) hs Z (als:=[]) (.inl ⟨rfl,rfl⟩) (.inl rfl) sP (.inr (by simp))) ?_;rintro r h ⟨g,v,k,rfl,⟨xA,O,rfl,G1,G2,d1,P⟩,he⟩;have e3:leaves _ _ C=true:=am g (Xa p5 (Xj M kq));have e4:leaves _ _ y=true:=am g (Xa N kq);have y1:Fl xA:=G1.fl;have y2:Fl O:=G2.fl;replace S:=S.call g;simp only [BZ,cls,seval];refine cM (S.store (i:=0) rfl Tryz.t96.2.1 (by intro x e;cases e) rfl (by simp only [ae,Xr,Xs,y1.2.1,y2.2.1,Xb];rfl) (lbt rfl) ono) ?_;have a3:=S.ok;have G: ∀c,aq xA c\/aq O c->c≠y:=fun c p e=>(by have:=S.fr.n;have h1:_<=c:=p.elim (fun h=>(d1 c h).1) (fun h=>P c h);omega);clear S;rintro X ⟨S,Y⟩;simp only [LC,ae,lay,Xg,Xh,seval]at S;simp only [BZ,cls,seval];refine⟨by simp only [aJ,aR,aH,aT,aI,ne_eq,not_false_eq_true,aY,bC,aQ,aN,bF,bW,aD,Xb,ah,gJ,au e1,ar e1,au e2,ar e2,au e3,ar e3,au e4,ar e4,<-H,seval],?_⟩;have A:=S.row (b:=y) m0;have j0:=A.load1 (o:=0) rfl;have j1:=A.load1 (o:=1) rfl;have j2:=A.load1 (o:=2) rfl;have D:F≠y:=fun e=>(by have:=(S0.row (b:=F) m0).lt u;omega);have aL:az X 1 bK xA k.arcs:=(G1.sl rfl dC (by decide)).mo Y (fun c p e=>G c (.inl p) e);have U:az X 4 iQ O k.ev:=(G2.sl rfl qS (by decide)).mo Y (fun c p e=>G c (.inr p) e);have a0:=sB.gr S.gr;have g3:=S.gr;have S1:=S0.call S.gr;clear S;have S:=S1;clear S1;have a4:=gQ;by_cases hd:k.dist<FAR
     . have I: ¬(72057594037927936:Int)<=(k.dist:Int):=(by omega);simp only [BZ,j0,I,seval];refine ao (av rfl) (q:=0) (ps:=[(7,8)]) (by kernel_rfl) ?_;simp only [BZ,cls,j0,j1,j2,y1,sB.fl,seval];refine cM (S.store (i:=0) rfl Tryz.t43.2.1 (by intro x e;cases e) rfl (by simp only [ae,Xr,Xs,y1.2.1,y2.2.1,sB.fl.2.1,Xb];rfl) (lbt rfl) ono) ?_;clear S;rintro h4 ⟨S,B⟩;simp only [LC,ae,lay,Xg,Xh,seval]at S;simp only [BZ,cls,ab,seval];refine⟨by simp only [aJ,aR,aH,aT,aI,ne_eq,not_false_eq_true,aY,bC,aQ,aN,bF,bW,aD,Xb,ah,gJ,c8 D,c8 D.symm,seval],?_⟩;refine(bw (by decide) (by simp only [aD,ah,seval];exact bj Tryz.t43.1 Tryz.t43.2.1 (S.lds (b:=F) (o:=0) (n:=4) m0 (lbt rfl)))).2 ?_;refine(dX (by decide)).2 (bS.2 ?_);have zE:az h4 4 iQ O k.ev:=U.mo B (fun c p e=>by have:=P c p;have:=R6.lt u;omega);have zA:az h4 1 bK xA k.arcs:=aL.mo B (fun c p e=>by have:=(d1 c p).1;have:=R6.lt u;omega);have zB:=a0.mo B (fun c p e=>by have:=nB c p;omega);exact⟨S.gr,_,_,_,_,_,rfl,fun x h=>(by have:=gV.n;rcases h with h|h|h;have:=(d1 x h).1;omega;have:=nB x h;omega;have:=P x h;omega),.inr ⟨z,s,w,k,rfl,rfl,hs,Z,he.resolve_left (fun h=>L h.1)|>.2,zE,.inr ⟨hd,rfl,rfl,zA,zB⟩⟩⟩
     . have I:(72057594037927936:Int)<=(k.dist:Int):=(by omega);simp only [BZ,j0,I,seval];refine ao (av rfl) (q:=0) (ps:=[(2,3)]) (by kernel_rfl) ?_;simp only [BZ,cls,j2,seval];refine cM (S.store (i:=0) rfl Tryz.t43.2.1 (by intro x e;cases e) rfl (by simp only [ae,Xr,Xs,y1.2.1,y2.2.1,Xb];rfl) (lbt rfl) ono) ?_;clear S;rintro h4 ⟨S,B⟩;simp only [LC,ae,lay,Xg,Xh,seval]at S;simp only [BZ,cls,ab,seval];refine⟨by simp only [aJ,aR,aH,aT,aI,ne_eq,not_false_eq_true,aY,bC,aQ,aN,bF,bW,aD,Xb,ah,gJ,c8 D,c8 D.symm,seval],?_⟩;refine(bw (by decide) (by simp only [aD,ah,seval];exact bj Tryz.t43.1 Tryz.t43.2.1 (S.lds (b:=F) (o:=0) (n:=4) m0 (lbt rfl)))).2 ?_;refine(dX (by decide)).2 (bS.2 ?_);have zE:az h4 4 iQ O k.ev:=U.mo B (fun c p e=>by have:=P c p;have:=R6.lt u;omega);exact⟨S.gr,_,_,_,_,_,rfl,fun x h=>(by have:=gV.n;rcases h with h|h|h;exact h.elim;exact h.elim;have:=P x h;omega),.inr ⟨z,s,w,k,rfl,rfl,hs,Z,he.resolve_left (fun h=>L h.1)|>.2,zE,.inl ⟨by omega,rfl,rfl,rfl,rfl⟩⟩⟩
 . simp only [BZ,c0,seval];refine aC (S.store (i:=0) rfl Tryz.t43.2.1 (by intro x e;cases e) rfl rfl (lbt rfl) ono) ?_;clear S;rintro X ⟨S,Y⟩;simp only [LC,ae,lay,Xg,Xh,seval]at S;simp only [BZ,ab];refine(bw (by decide) (by simp only [aD,ah,seval];exact bj Tryz.t43.1 Tryz.t43.2.1 (S.lds (b:=F) (o:=0) (n:=4) m0 (lbt rfl)))).2 ?_;refine(dX (by decide)).2 (bS.2 ?_);exact⟨S.gr,_,_,_,_,_,rfl,fun x h=>by rcases h with h|h|h<;>exact h.elim,.inl ⟨.inl c0,rfl,rfl,rfl,rfl,rfl⟩⟩
theorem clr1_ok(k:OZ h0){c:Nat}(R:Row h0 a (ja n B) 1)(f:j<n)(hB:B j<256)(l:i<8)(m:h0.load c 0 1=some [.bool false])(d:c≠a):
 Ret zM 100 [.pointer (some ⟨a,j,none⟩),.int .u8 ((2 ^i:Nat):Int),ptrTo c] h0 fun r h'=>Mo (· =a) h0 h'/\r=.bool true/\Row h' a (ja n (dU B j (B j ^^^(B j&&& 2 ^i)))) 1:=by
 have S:=St.init1 k (o:=.row (ja n B) 1) R;have g:=S.ld (b:=a) (o:=j) m0 (vt f);have p:=pow8 l;refine aa (n:=19) (rs:=[.tmp 5]) rfl Tryz.e100 rfl rfl rfl (lbt rfl) ?_;simp only [BZ,g,Ap hB p,seval];refine aC (aE S (i:=0) rfl Tryz.t5.2.2.1 aZ (by rw [xK];exact f) ono) ?_;clear S g;rintro h ⟨S,q⟩;simp only [LC]at S;rw [wU]at S;have e:=S.old m d;simp only [BZ,ab,e,seval];exact⟨S.fr,S.row m0⟩
def Tz(b a:Nat)(B:Nat->Nat):Prop:= ∀r i,b<=i->i/8<a->gu B a r i=false
theorem bitB_clr(h:gu B a r i=false):gu (dU B j (B j ^^^(B j&&& 2 ^k))) a r i=false:=by
 unfold gu dU at*
 split
 . rename_i e;rw [e]at h;rw [Nat.testBit_xor,Nat.testBit_and,h];rfl
 . exact h
theorem bSetZ_ok(G:OZ h0){w l d:Nat}(m:eu h0 y w l k d B)(A:y≠w)(L:r<l)(N:i<k)(s:l<=100)(t:k<=1000)(u:d=(k+7)/8)(x:Bool):
 Ret zM 39 [ptrTo y,.int .i64 (r:Nat),.int .i64 (i:Nat),.bool x] h0 fun v h'=>Mo (· =w) h0 h'/\ ∃O,eu h' y w l k d O/\(Tz k d B->Tz k d O):=by
 cases x with
 |true=>exact(bSet_ok G m A L N s t u).mono fun v h' ⟨a,_,b⟩=>⟨a,_,b,fun z H I F D=>by
  rw [CD (by omega) D,if_neg (fun e=>by omega)];exact z H I F D⟩
 |false=>
 obtain⟨X,Y,Z,n4,P,n6,Q⟩:=tK L N s t u;have pl: ∀{h:Hp} {E:Nat},Gr h0 h->h.load E 0 1=some [.bool false]->E≠w->Ret zM 99 [ptrTo y,.int .i64 (r:Nat),.int .i64 (i:Nat),.func (.func 100) #[] #[ptrTo E]] h fun v h'=>Mo (· =w) h h'/\v=.bool true/\Row h' w (ja (l*d) (dU B (r*d+i/8) (B (r*d+i/8) ^^^(B (r*d+i/8)&&& 2 ^(i%8))))) 1:=by
  intro h E g l7 h7;have S:=Si g.ok;have C:=m.gr g;have c1: ¬(r:Int)<0:=by omega
  have c2: ¬(l:Int)<=(r:Int):=by omega
  have c3: ¬(i:Int)<0:=by omega
  have c4: ¬(k:Int)<=(i:Int):=by omega
  have l2:=C.r.load1 (o:=2) rfl;have l3:=C.r.load1 (o:=3) rfl;have zp:=C.r.lt g.ok;refine aa (n:=46) (rs:=[.tmp 8]) rfl Tryz.e99 rfl rfl rfl (lbt rfl) ?_;simp only [BZ,c1,seval];refine ag (jD S.ok C.bits) ?_;intro F J;replace S:=S.call J;simp only [BZ,c2,c3,seval];refine ag (jH S.ok (C.gr J).bits) ?_;intro D T;replace S:=S.call T;have p:=J.trans T;have k2:=p.load l2;have k3:=p.load l3;simp only [BZ,c4,seval];refine ao (av rfl) (q:=0) (ps:=[]) (by kernel_rfl) ?_;simp only [BZ,cls,k2,k3,X,Y,Z,n4,P,mL (n:=8) (by decide),jL (n:=8) (by decide),b_shl8 Q,seval];refine bU (clr1_ok S.ok (C.b.gr p) P (C.lt _) Q (p.load l7) h7) ?_;rintro v h3 ⟨U,rfl,R3⟩;have vv:leaves D h3 y=true:=pR (U.get y (Xa zp p.n) A);simp only [BZ,cls,ab,seval];exact⟨(p.fr (M:=(· =w))).trans U (fun c K=>.inl K),R3⟩
 have S:=Si G;have zb:=m.b.lt G;refine aa (n:=14) (rs:=[.tmp 8]) rfl Tryz.e39 rfl rfl rfl (lbt rfl) ?_;simp only [BZ,seval];refine ac (bJ (by exact og)) S ?_;clear S;intro h E S V;simp only [BZ,seval];have k7:=S.fr.n;refine step_ret (pl S.gr (S.ld m0 rfl) (by omega)) ?_;rintro v h ⟨f,rfl,R⟩;simp only [BZ,seval];have W:Mo (· =w) h0 h:=(S.gr.fr (M:=(· =w))).trans f (fun c K=>.inl K);refine⟨W,_,⟨W.has (o:=.row _ 1) m.r A,R,fun j=>?_⟩,fun z H I F D=>bitB_clr (z H I F D)⟩;unfold dU
 split
 . exact Nat.xor_lt_two_pow (n:=8) (m.lt _) (Nat.lt_of_le_of_lt Nat.and_le_left (m.lt _))
 . exact m.lt _
def Sep(a:List Value):Prop:= ∀(i j:Nat) (w u:Value) (c:Nat),a[i]? =some w->a[j]? =some u->i≠j->aq w c-> ¬aq u c
theorem xM{b:Type}{l:List b}{x u:b}(h:(l++[x])[j]? =some u):l[j]? =some u\/(j=l.length/\u=x):=by
 by_cases c:j<l.length
 . rw [Xw c]at h;exact .inl h
 . rw [Xu (by omega)]at h;have a:j-l.length=0:=(by have:=(List.getElem?_eq_some_iff.1 h).1;simp at this;omega);rw [a]at h;cases h;exact .inr ⟨by omega,rfl⟩
theorem Sep.push{f:List Value}{y:Value}(s:Sep f)(h: ∀(j:Nat) u,f[j]? =some u-> ∀c,aq u c-> ¬aq y c):Sep (f++[y]):=by
 intro i j w u c a b g d e;rcases xM a with a|⟨k,l⟩<;>rcases xM b with b|⟨m,e4⟩
 . exact s i j w u c a b g d e
 . rw [e4]at e;exact h i w a c d e
 . rw [l]at d;exact h j u b c e d
 . exact g (k.trans m.symm)
def WrI(h:Hp)(w:Value)(l:List Int):Prop:=az h 1 (encI .i64) w l/\(l≠ []-> ∃b,w=.slice (some ⟨b,0,some 1⟩) l.length l.length/\Row h b (ints l) 1)
theorem WrI.mo{M:Nat->Prop}{h h':Hp}{w:Value}{l:List Int}(r:WrI h w l)(g:Mo M h h')(a: ∀b,aq w b-> ¬M b):WrI h' w l:=
 ⟨r.1.mo g a,fun c=>by obtain⟨b,e,k⟩:=r.2 c;exact⟨b,e,g.has (o:=.row _ 1) k (a b (by rw [e];rfl))⟩⟩
theorem WrI.gr{w:Value}(r:WrI h w l)(g:Gr h h'):WrI h' w l:=r.mo (M:=NoM) g.fr (fun _ _ h=>h)
theorem C8(l:OZ h0){xs:List Int}(m:az h0 1 (encI .i64) v xs)(q:xs.length<1000000):Ret zM 153 [v] h0 fun r h'=>Gr h0 h'/\WrI h' r xs/\ ∀c,aq r c->h0.n<=c:=by
 have S:=Si l;by_cases f:xs=[]
 . obtain⟨r,h',t,g,u,i⟩:=sW l m q;exact⟨r,h',t,g,⟨u,fun h=>absurd f h⟩,i⟩
 rcases m with⟨rfl,rfl⟩|⟨b,o,s,c,rfl,w,x⟩
 . exact absurd rfl f
 . refine aa (n:=8) (rs:=[.tmp 2]) rfl Tryz.e153 rfl rfl rfl (lbt rfl) ?_;simp only [BZ,seval];refine ac (ce (by exact Tryz.t23.1) (by exact Tryz.e2E) (by decide) (by rfl)) S ?_;clear S;intro h z S p;simp only [LC,bH,cg,ae,XF,Xx,Xv,XI,seval]at S;simp only [BZ,seval];have j:az h 1 (encI .i64) (.slice (some ⟨b,o,s⟩) xs.length c) xs:=.inr ⟨b,o,s,c,rfl,w,S.old x (fun h=>h)⟩;refine dE (S.clone (n:=0) (vs:=[]) Tryz.t23.1 Tryz.e2E (by decide) Tryz.t23.2.2.2.2.2 j.src (cB (bO .i64) xs).symm rfl (by decide) (by rw [cB (bO .i64)];simp;omega) (S.row m0)) ?_;rintro h' v (⟨e,_⟩|⟨a,rfl,k⟩)
   . exact absurd (List.length_eq_zero_iff.1 e) f
   simp only [BZ,ab,seval];have d:Row h' a (ints xs) 1:=k.row m0;have y:h0.n<=a:=(k.own _ m0).1.elim (fun h=>h) (fun h=>h.elim);refine⟨k.gr,⟨.inr ⟨a,0,some 1,xs.length,rfl,Xz _,?_⟩,fun _=>⟨a,rfl,d⟩⟩,fun c i=>?_⟩
   . rw [d.load (by rw [cC];omega),Xt,Xv,<-cC xs,Xn];rfl
   . obtain rfl:a=c:=i;exact y
def LLD(h:Hp)(m k:Nat)(v:Value)(n:Nat)(R:Nat->List Int):Prop:=
 ∃a:List Value,az h 1 encV v a/\a.length=n/\(∀c,aq v c->m<=c/\c<k)/\(∀(i:Nat) w,a[i]? =some w->WrI h w (R i)/\ ∀c,aq w c->m<=c/\c<k/\ ¬aq v c)/\Sep a
theorem LLD.ll(r:LLD h m k v n R):fG h m v n R:=by obtain⟨g,a,b,c,d,_⟩:=r;exact⟨g,a,b,fun x e=>(c x e).1,fun i w f=>⟨(d i w f).1.1,fun x e=>((d i w f).2 x e).1⟩⟩
theorem LLD.mo{M:Nat->Prop}{h h':Hp}{m k n:Nat}{v:Value}{R:Nat->List Int}(r:LLD h m k v n R)(g:Mo M h h')(o: ∀b,M b->b<m\/k<=b):LLD h' m k v n R:=by obtain⟨q,a,b,c,d,e⟩:=r;exact⟨q,a.mo g (fun x f j=>by have:=c x f;have:=o x j;omega),b,c,fun i w l=>⟨(d i w l).1.mo g (fun x f j=>by have p:=(d i w l).2 x f;have s:=p.1;have t:=p.2.1;have:=o x j;omega),(d i w l).2⟩,e⟩
theorem LLD.gr(r:LLD h m k v n R)(g:Gr h h'):LLD h' m k v n R:=r.mo (M:=NoM) g.fr (fun _ h=>h.elim)
theorem LLD.form(r:LLD h m k v n R): ∃a n c,v=.slice a n c:=by obtain⟨_,s,_⟩:=r;rcases s with⟨rfl,_⟩|⟨b,o,s,c,rfl,_⟩<;>exact⟨_,_,_,rfl⟩
theorem mem_gkey{M:Nat->Prop}{a:List Value}(S:St M h0 h [] [(v,k,a)]){c:Nat}(d:aq v c):c∈keys [] [(v,k,a)]:=by
 have f:eo (v,k,a)=some c:=by
  rcases(S.gown (v,k,a) (List.mem_singleton.2 rfl)).1 with⟨e,_⟩|⟨b,n,e,_⟩
  . rw [show v=_ from e]at d;exact d.elim
  . have g:v=.slice (some ⟨b,0,some k⟩) n n:=e;rw [g]at d⊢;exact congrArg some d
 exact List.mem_filterMap.2 ⟨_,List.mem_singleton.2 rfl,f⟩
theorem rV  (X:OZ h0)    (M:fG h0 m v n R) (hn:n<1000) (Y: ∀i,i<n->(R i).length<1000000):
 Ret zM 86 [v] h0 fun r h'=>Gr h0 h'/\LLD h' h0.n h'.n r n R:=by
 have S:=Si X;refine aa (n:=18) (rs:=[.tmp 2]) rfl Tryz.e86 rfl rfl rfl (lbt rfl) ?_;simp only [BZ,M.lenq,seval];replace S:=S.nilG (k:=1);refine aW (fun(i:Nat) C h=>i<=n/\ ∃(f:List Value) (s:Value),St NoM h0 h [] [(s,1,f)]/\f.length=i/\(∀j w,f[j]? =some w->WrI h w (R j)/\ ∀c,aq w c->h0.n<=c/\c∉keys [] [(s,1,f)])/\Sep f/\C 2=s/\C 5=v/\C 6=.int .i64 n/\C 7=.int .i64 i) (fun i=>n-i) ?_ 0 _ _ ?_
 . clear S;intro i Z C h ⟨hi,f,s,S,t,hc,hd,r2,r5,r6,r7⟩;have ad:Fl s:=by
    rcases(S.gown _ m0).1 with⟨e,_⟩|⟨_,_,e,_⟩
    . rw [show s=_ from e];exact aU
    . rw [show s=_ from e];exact aU
   by_cases hlt:i<n
   . obtain⟨x,⟨q,o,D,G⟩,N,_⟩:=(M.gr S.gr).row hlt;have fx:=N.fl;have w:an .i64 ((i:Int)+1)=((i+1:Nat):Int):=(by rw [wrap64]<;>omega);simp only [BZ,r2,r5,r6,r7,aF,hlt,D,G,seval];have H:=S;refine step_ret (C8 S.ok N (Y i hlt)) ?_;rintro y O ⟨g,I,J⟩;have F:=S.call g;obtain⟨z,A,B,rfl⟩:=I.1.form;have fy:Fl (.slice z A B):=aU;have l: ∀(j:Nat) u,(f++[.slice z A B])[j]? =some u->WrI O u (R j)/\ ∀c,aq u c->h0.n<=c/\c∉keys [] [(s,1,f)]/\c<O.n:=fun j u d=>by
      rcases xM d with d|⟨rfl,rfl⟩
      . obtain⟨P,Q⟩:=hc j u d;exact⟨P.gr g,fun c a=>⟨(Q c a).1,(Q c a).2,(P.gr g).1.lt F.ok a⟩⟩
      . rw [t];exact⟨I,fun c a=>⟨Xj H.fr.n (J c a),fun K=>by have:=H.key_lt K;have:=J c a;omega,I.1.lt F.ok a⟩⟩
     have L:=hd.push (y:=.slice z A B) fun j u d c a hy=>(by have:=(hc j u d).1.1.lt H.ok a;have:=J c hy;omega);replace S:=F.base;simp only [BZ,seval];refine ac (ce (by exact Tryz.t79.1) (by exact Tryz.e23E) (by decide) (by rfl)) S ?_;clear S;intro h T S U;simp only [LC,bH,cg,ae,XF,Xx,Xv,XI,seval]at S;simp only [BZ,seval];have E:aK h 1 (.slice (some ⟨T,0,none⟩) 1 1)=some (1,[.slice z A B]):=(by simp only [aK];rw [S.lds (b:=T) (o:=0) (n:=1*1) m0 (lbt rfl)];rfl);replace S:=S.drop1;refine dE (S.grow (j:=0) (m:=1) (new:=[.slice z A B]) rfl Tryz.t79.1 Tryz.e23E (by decide) Tryz.t79.2.2.2.2.2 E rfl (by decide) (by simp [fy.2.1]) (by simp;omega)) ?_;clear S E;rintro h p S;simp only [LC]at S;have fv:Fl p:=by
      rcases(S.gown _ m0).1 with⟨e,_⟩|⟨_,_,e,_⟩
      . rw [show p=_ from e];exact aU
      . rw [show p=_ from e];exact aU
     simp only [BZ,r7,w,seval];refine Z (i+1) _ _ (by omega) ⟨by omega,f++[.slice z A B],p,F.rebase S,by simp [t],fun j u d=>⟨(l j u d).1.mo S.fr (fun c a=>((l j u d).2 c a).2.1),fun c a=>⟨((l j u d).2 c a).1,fun K=>?_⟩⟩,L,by simp [aB,r5,r6]⟩;rcases S.key_new c K with V|V
     . exact((l j u d).2 c a).2.1 V
     . have:=((l j u d).2 c a).2.2;omega
   . simp only [BZ,ab,r2,r6,r7,aF,hlt,seval];have W:=(S.gown _ m0).1.sl (Al f).symm tH (by decide);refine⟨S.gr,f,W,by omega,fun c a=>⟨((S.gblk m0 a).1).elim (fun h=>h) (fun h=>h.elim),W.lt S.ok a⟩,fun j u d=>⟨(hc j u d).1,fun c a=>⟨((hc j u d).2 c a).1,(hc j u d).1.1.lt S.ok a,fun hv=>((hc j u d).2 c a).2 ?_⟩⟩,hd⟩;exact mem_gkey S hv
 . exact⟨Xk _,[],_,S,rfl,fun j w t=>by simp at t,fun i j w u c t=>by simp at t,by simp [aB,cG]⟩
def ik(N:Nat)(l:List Int):Prop:=l.length=N/\ ∀x∈l,0<=x/\x<=72057594037927936
theorem mk11_ok(a:OZ h0){x:Int}(d:0<=x/\x<=72057594037927936):aO zM 89 [.int .i64 x] h0 (.bool false):=by
 have S:=Si a;have b: ¬x<0:=by omega
 have c: ¬72057594037927936<x:=by omega
 refine aa (n:=9) (rs:=[.tmp 2]) rfl Tryz.e89 rfl rfl rfl (lbt rfl) ?_;simp only [BZ,ab,b,c,seval];exact S.gr
theorem mkIdx_ok(d:OZ h0)(e:az h0 1 (encI .i64) v l)(k:l.length<=1000000)(f: ∀x∈l,0<=x/\x<=72057594037927936):aO zM 176 [v,.func (.func 89) #[] #[]] h0 (.int .i64 (-1)):=by
 have S:=Si d;refine aa (n:=19) (rs:=[.tmp 4]) rfl Tryz.e176 rfl rfl rfl (lbt rfl) ?_;simp only [BZ,e.lenq,seval];refine aW (fun(i:Nat) a h=>i<=l.length/\Gr h0 h/\a 0=v/\a 1=.func (.func 89) #[] #[]/\a 7=.int .i64 l.length/\a 8=.int .i64 i) (fun i=>l.length-i) ?_ 0 _ _ ?_
 . clear S;intro i j a h ⟨hi,S,r0,r1,r7,r8⟩;by_cases hlt:i<l.length
   . obtain⟨q,o,b,c⟩:=(e.gr S).ix (kd:=.i64) (bO .i64) hlt;have w:an .i64 ((i:Int)+1)=((i+1:Nat):Int):=(by rw [wrap64]<;>omega);simp only [BZ,r0,r1,r7,r8,aF,hlt,b,c,encI,seval];refine ag (mk11_ok S.ok (f _ (Xi hlt))) ?_;intro m g;simp only [BZ,r8,w,seval];exact j (i+1) _ _ (by omega) ⟨by omega,S.trans g,by simp [aB,r0,r1,r7]⟩
   . simp only [BZ,ab,r7,r8,aF,hlt,seval];exact S
 . exact⟨Xk _,Gr.refl d,by simp [aB,cG,dr]⟩
theorem mkCf_ok(a:OZ h0)(b:az h0 1 (encI .i64) v l)(c:l.length<=1000000)(d: ∀x∈l,0<=x/\x<=72057594037927936):aO zM 88 [v,.func (.func 89) #[] #[]] h0 (.bool false):=by have S:=Si a;refine aa (n:=9) (rs:=[.tmp 4]) rfl Tryz.e88 rfl rfl rfl (lbt rfl) ?_;simp only [BZ,seval];refine ag (mkIdx_ok S.ok b c d) ?_;intro h g;replace S:=S.call g;clear g;simp only [BZ,ab,seval];exact S.gr
theorem mk1_ok(d:OZ h0)(f:h0.load b 0 1=some [.int .i64 N])(a:az h0 1 (encI .i64) v l)(c:ik N l)(i:N<=1000000):aO zM 87 [v,ptrTo b] h0 (.bool false):=by have S:=Si d;have e:=c.1;subst e;refine aa (n:=12) (rs:=[.tmp 3]) rfl Tryz.e87 rfl rfl rfl (lbt rfl) ?_;simp only [BZ,a.lenq,f,seval];refine ag (mkCf_ok S.ok a i c.2) ?_;intro h g;replace S:=S.call g;clear g;simp only [BZ,ab,seval];exact S.gr
theorem mkIdxR_ok(e:OZ h0)(k:h0.load b 0 1=some [.int .i64 N])(f:fG h0 m v n R)(s:n<=1000000)(l: ∀i,i<n->ik N (R i))(p:N<=1000000):aO zM 177 [v,.func (.func 87) #[] #[ptrTo b]] h0 (.int .i64 (-1)):=by
 have S:=Si e;refine aa (n:=19) (rs:=[.tmp 4]) rfl Tryz.e177 rfl rfl rfl (lbt rfl) ?_;simp only [BZ,f.lenq,seval];refine aW (fun(i:Nat) a h=>i<=n/\Gr h0 h/\a 0=v/\a 1=.func (.func 87) #[] #[ptrTo b]/\a 7=.int .i64 n/\a 8=.int .i64 i) (fun i=>n-i) ?_ 0 _ _ ?_
 . clear S;intro i r a h ⟨hi,S,r0,r1,r7,r8⟩;by_cases hlt:i<n
   . obtain⟨x,⟨q,o,c,d⟩,j,_⟩:=(f.gr S).row hlt;have t:=j.fl;have w:an .i64 ((i:Int)+1)=((i+1:Nat):Int):=(by rw [wrap64]<;>omega);simp only [BZ,r0,r1,r7,r8,aF,hlt,c,d,seval];refine ag (mk1_ok S.ok (S.load k) j (l i hlt) p) ?_;intro u g;simp only [BZ,r8,w,seval];exact r (i+1) _ _ (by omega) ⟨by omega,S.trans g,by simp [aB,r0,r1,ah,r7]⟩
   . simp only [BZ,ab,r7,r8,aF,hlt,seval];exact S
 . exact⟨Xk _,Gr.refl e,by simp [aB,cG,dr,ah]⟩
theorem mkCfR_ok(a:OZ h0)(c:h0.load b 0 1=some [.int .i64 N])(d:fG h0 m v n R)(e:n<=1000000)(f: ∀i,i<n->ik N (R i))(j:N<=1000000):aO zM 91 [v,.func (.func 87) #[] #[ptrTo b]] h0 (.bool false):=by have S:=Si a;refine aa (n:=9) (rs:=[.tmp 4]) rfl Tryz.e91 rfl rfl rfl (lbt rfl) ?_;simp only [BZ,seval];refine ag (mkIdxR_ok S.ok c d e f j) ?_;intro h g;replace S:=S.call g;clear g;simp only [BZ,ab,seval];exact S.gr
theorem mk2_ok(j:OZ h0){c:Nat}{d:Value}(k:h0.load b5 0 1=some [d])(o:h0.load c 0 1=some [.func (.func 87) #[] #[ptrTo b]])(e:az h0 1 (encI .i64) d l)(p:h0.load b 0 1=some [.int .i64 N])(f:fG h0 m v n R)(q:n<=1000000)(a:l.length=n)(r: ∀i,i<n->ik N (R i))(s:N<=1000000):aO zM 90 [v,ptrTo b5,ptrTo c] h0 (.bool false):=by have S:=Si j;have t:=e.fl;subst a;refine aa (n:=15) (rs:=[.tmp 4]) rfl Tryz.e90 rfl rfl rfl (lbt rfl) ?_;simp only [BZ,f.lenq,e.lenq,k,o,seval];refine ag (mkCfR_ok S.ok p f q r s) ?_;intro h g;replace S:=S.call g;clear g;simp only [BZ,ab,seval];exact S.gr
theorem make_ok(ok:OZ h0){mT mF:Nat}{M O P:Value}(s:az h0 1 (encI .i64) M l)(T:fG h0 mT O l.length R)(U:fG h0 mF P l.length Q)(n1:1<=N)(hN:N<=100)(V:iS N l)(W: ∀i,i<l.length->ik N (R i))(X: ∀i,i<l.length->ik N (Q i)):
 Ret zM 35 [.int .i64 N,M,O,P] h0 fun r h'=>Gr h0 h'/\TabAt h' h0.n r N l R Q:=by
 have S:=Si ok;have Y:=V.1;have k:l.length<1000:=by omega
 have c1: ¬(N:Int)<1:=by omega
 have cm:decide (iS N l)=true:=decide_eq_true V;have fM:=s.fl;obtain⟨ma,mn,mc,rfl⟩:=s.form;refine aa (n:=40) (rs:=[.tmp 8]) rfl Tryz.e35 rfl rfl rfl (lbt rfl) ?_;simp only [BZ,seval];refine ac (aV (by intro x e;cases e)) S ?_;clear S;intro h d S Z;simp only [ae]at S;simp only [BZ,if_false,seval];refine ac (aV (by intro x e;cases e)) S ?_;clear S;intro h f S ad;simp only [ae]at S;simp only [BZ,seval];refine ac aA S ?_;clear S;intro h A S af;simp only [BZ,seval];refine aC (aE S (i:=0) rfl ?_ ?_ ?_ ono) ?_
 . exact(by simp only [FA0])
 . exact(by exact dY)
 . exact Xe (lbt rfl)
 clear S;rintro h ⟨S,mo⟩;clear mo;simp only [LC,ae,lay,Xg,Xh,seval]at S;have m:=S.ld (b:=d) (o:=0) m2 rfl;have p:=S.ld (b:=f) (o:=0) m1 rfl;have y:=S.ld (b:=A) (o:=0) m0 rfl;simp only [BZ,m,p,c1,seval];refine ag (may_ok S.ok (s.gr S.gr) (by omega)) ?_;intro h g;replace S:=S.call g;clear g;rw [cm];simp only [BZ,seval];have m:=S.ld (b:=d) (o:=0) m2 rfl;have p:=S.ld (b:=f) (o:=0) m1 rfl;have y:=S.ld (b:=A) (o:=0) m0 rfl;refine ag (mk2_ok S.ok p y (s.gr S.gr) m (T.gr S.gr) (by omega) rfl W (by omega)) ?_;intro h g;replace S:=S.call g;clear g;simp only [BZ,seval];have m:=S.ld (b:=d) (o:=0) m2 rfl;have p:=S.ld (b:=f) (o:=0) m1 rfl;have y:=S.ld (b:=A) (o:=0) m0 rfl;refine ag (mk2_ok S.ok p y (s.gr S.gr) m (U.gr S.gr) (by omega) rfl X (by omega)) ?_;intro h g;replace S:=S.call g;clear g;have m:=S.ld (b:=d) (o:=0) m2 rfl;have p:=S.ld (b:=f) (o:=0) m1 rfl;simp only [BZ,seval];refine ao (av rfl) (q:=256) (ps:=[(0,6),(0,4),(0,2)]) (by kernel_rfl) ?_;simp only [BZ,cls,m,p,seval];refine bU (jE S.ok (bO .i64) (s.gr S.gr) (by omega)) ?_;rintro v h ⟨g,a,nM⟩;have e41:leaves _ _ d=true:=am g ((S.row (b:=d) m2).lt S.ok);have e51:leaves _ _ f=true:=am g ((S.row (b:=f) m1).lt S.ok);have k1:=S.fr.n;have B:=fun c (j:c∈keys _ _)=>S.key_lt j;replace S:=S.call g;clear g;obtain⟨va,vn,vc,rfl⟩:=a.form;simp only [BZ,cls,seval];refine bU (rV S.ok (T.gr S.gr) k (fun i C=>by have:=(W i C).1;omega)) ?_;rintro v h ⟨g,z⟩;have e42:leaves _ _ d=true:=am g ((S.row (b:=d) m2).lt S.ok);have e52:leaves _ _ f=true:=am g ((S.row (b:=f) m1).lt S.ok);have k2:=S.fr.n;have D:=fun c (j:c∈keys _ _)=>S.key_lt j;replace S:=S.call g;replace a:=a.gr g;clear g;obtain⟨ta,tn,tc,rfl⟩:=z.form;simp only [BZ,cls,seval];refine bU (rV S.ok (U.gr S.gr) k (fun i C=>by have:=(X i C).1;omega)) ?_;rintro v h ⟨g,L2⟩;have e43:leaves _ _ d=true:=am g ((S.row (b:=d) m2).lt S.ok);have e53:leaves _ _ f=true:=am g ((S.row (b:=f) m1).lt S.ok);have k3:=S.fr.n;have E:=fun c (j:c∈keys _ _)=>S.key_lt j;replace S:=S.call g;replace a:=a.gr g;replace z:=z.gr g;clear g;obtain⟨fa,fn,fc,rfl⟩:=L2.form;simp only [BZ,cls,seval];have t:=S;replace S:=S.base;have q4:=(t.row (b:=d) m2).lt t.ok;have q5:=(t.row (b:=f) m1).lt t.ok;refine df (aV (by intro x e;cases e)) S ?_;clear S;intro h b S ai F;simp only [ae]at S;have G:d≠b:=by omega
 have H:f≠b:=by omega
 simp only [BZ,cls,ab,seval];refine⟨by simp only [aJ,aR,aH,aT,aI,ne_eq,not_false_eq_true,aY,bC,aQ,aN,bF,bW,aD,Xb,ah,ar e41,ar e42,ar e43,ar e51,ar e52,ar e53,c8 G,c8 H,<-F,seval],?_⟩;have I:=S.fr;have u:=a.mo I (fun c j w=>by have:=nM c j;have:=B c w;omega);have J:=z.mo I (fun c w=>.inl (D c w));have K:=L2.mo I (fun c w=>.inl (E c w));have L:=S.row (b:=b) m0;replace S:=t.rebase S;exact⟨S.gr,⟨b,_,_,_,rfl,L,u,J.ll.low k2,K.ll.low k3,(S.own _ m0).1.elim (fun h=>h) (fun h=>h.elim),fun c j=>Xj k1 (nM c j)⟩⟩
theorem El(u:OZ h0)(t:TabAt h0 m p N l R Q)(f:l.length<1000)(w: ∀i,i<l.length->(R i).length<1000000)(x: ∀i,i<l.length->(Q i).length<1000000):
 Ret zM 34 [p] h0 fun r h'=>Gr h0 h'/\ ∃d e k,r=.tuple #[d,e]/\LLD h' h0.n k d l.length R/\LLD h' k h'.n e l.length Q/\h0.n<=k/\k<=h'.n:=by
 have S:=Si u;obtain⟨b,E,d,e,rfl,a,_,y,z,_⟩:=t.ex;have A:=a.load1 (o:=2) rfl;refine aa (n:=16) (rs:=[.tmp 2,.tmp 3]) rfl Tryz.e34 rfl rfl rfl (lbt rfl) ?_;simp only [BZ,seval];refine ao (av rfl) (q:=0) (ps:=[(4,8)]) (by kernel_rfl) ?_;simp only [BZ,cls,A,seval];refine bU (rV S.ok (y.gr S.gr) f w) ?_;rintro v h ⟨g,c⟩;have F:=S.fr.n;have j:leaves _ _ b=true:=am g (a.lt S.ok);replace S:=S.call g;replace a:=a.gr g;clear g;obtain⟨G,H,I,rfl⟩:=c.form;have B:=a.load1 (o:=3) rfl;simp only [BZ,cls,B,seval];refine bU (rV S.ok (z.gr S.gr) f x) ?_;rintro v h ⟨g,s⟩;have C:=S.fr.n;have D:=S.ok;replace S:=S.call g;replace c:=c.gr g;obtain⟨J,K,L,rfl⟩:=s.form;simp only [BZ,cls,ab,seval];refine⟨by simp only [aJ,aR,aH,aT,aI,ne_eq,not_false_eq_true,aY,bC,aQ,aN,bF,bW,aD,Xb,ah,ar j,au j,seval],?_⟩;exact⟨S.gr,_,_,_,rfl,c,s,C,g.n⟩
theorem LLD.at{h:Hp}{m k n:Nat}{v:Value}{R:Nat->List Int}(r:LLD h m k v n R){i:Nat}(J:i<n)(y:R i≠ []):
 ∃ c,(∃q o,mQ (some 1) v (.int .i64 (i:Nat))=some (.pointer (some ⟨q,o,none⟩))/\h.load q o 1=some [.slice (some ⟨c,0,some 1⟩) (R i).length (R i).length])/\Row h c (ints (R i)) 1/\m<=c/\c<k/\
   ∀h' l',Mo (· =c) h h'->l'.length=(R i).length->Row h' c (ints l') 1->LLD h' m k v n (fun t=>if t=i then l' else R t):=by
 obtain⟨p,a,b,c,d,e⟩:=r;obtain⟨q,o,H,z⟩:=a.ix (kd:=.i64) tH (i:=i) (by omega);have A:p[i]? =some p[i]:=Xc (by omega);obtain⟨⟨K,I⟩,B⟩:=d i _ A;obtain⟨l,C,D⟩:=I y;have f:aq p[i] l:=by rw [C];rfl
 refine⟨l,⟨q,o,H,by rw [<-C];exact z⟩,D,(B l f).1,(B l f).2.1,fun h' l' G s g=>⟨p,a.mo G (fun x E e=>by subst e;exact(B _ f).2.2 E),b,c,fun j w u=>?_,e⟩⟩;refine⟨?_,(d j w u).2⟩;show WrI h' w (if j=i then l' else R j);by_cases F:j=i
 . subst F;rw [if_pos rfl];rw [A]at u;cases u;rw [C];refine⟨.inr ⟨l,0,some 1,(R j).length,by rw [s],by omega,?_⟩,fun _=>⟨l,by rw [s],g⟩⟩;rw [g.load (by rw [cC];omega),Xt,Xv,<-cC l',Xn];rfl
 . rw [if_neg F];exact(d j w u).1.mo G (fun x E z=>by subst z;exact e j i w p[i] _ u A F E f)
theorem Cy{B:List Arc}(h: ∀v,dOf B s v<=FAR){x:Int}(a:x∈rowD B N s):0<=x/\x<=72057594037927936:=by unfold rowD at a;obtain⟨v,_,rfl⟩:=List.mem_map.1 a;have:=h v;unfold FAR at this;omega
def crcS(r:Nat):Nat:=(r>>>1) ^^^(if r%2=1 then 3988292384 else 0)
def crcN:Nat->Nat->Nat
 |0,r=>r|k+1,r=>crcN k (crcS r)
def crcB(r b:Nat):Nat:=crcN 8 (r ^^^b)
def crcL(r:Nat)(l:List UInt8):Nat:=l.foldl (fun r b=>crcB r b.toNat) r
def crc(l:List UInt8):Nat:=4294967295 ^^^crcL 4294967295 l
abbrev Bs:=List UInt8
def getN:Bs->Nat
 | []=>0|b::l=>b.toNat+256*getN l
def first6:Bs:=[77,73,76,69,49,1]
abbrev Ent:=Nat×Nat×Nat
def entD(s:Bs):Ent:=(getN (s.take 1),getN ((s.drop 1).take 8),getN ((s.drop 9).take 4))
def entsD:Nat->Bs->List Ent
 |0,_=>[]|k+1,s=>entD s::entsD k (s.drop 13)
def wj(s:Bs):Nat:=getN ((s.drop 6).take 1)
def headOk(s:Bs):Prop:=s.take 6=first6/\7<=s.length/\wj s<=16/\11+13*wj s<=s.length/\getN ((s.drop (7+13*wj s)).take 4)=crc (s.take (7+13*wj s))/\
 ((entsD (wj s) (s.drop 7)).map (·.2.1)).sum=s.length-(11+13*wj s)
noncomputable instance (s:Bs):Decidable (headOk s):=Classical.propDecidable _
def u64(x:Int):Nat:=(x%18446744073709551616).toNat
def i64(n:Nat):Int:=if n<9223372036854775808 then n else n-18446744073709551616
theorem u64_lt(x:Int):u64 x<256 ^8:=by unfold u64;omega
structure Tab where
 l:List Int
 to:List (List Int)
 fr:List (List Int)
structure Img where
 g:Gra
 T:Option Tab
 C:Option (List Int×Bs)
structure TabL(N:Nat)(T:Tab):Prop where
 l1:1<=T.l.length
 l2:T.l.length<=16
 to:T.to.length=T.l.length
 fr:T.fr.length=T.l.length
 rTo: ∀r∈T.to,r.length=N/\ ∀x∈r,0<=x/\x<=72057594037927936
 rFr: ∀r∈T.fr,r.length=N/\ ∀x∈r,0<=x/\x<=72057594037927936
 rl: ∀x∈T.l,0<=x/\x<4294967296
theorem hf_u{k:IntKind}(h:sgn k=false):hf k=pw k:=by cases k<;>first|rfl|cases h
theorem wrapN{k:IntKind}(h:sgn k=false)(n:Nat):an k (n:Int)=((n%pw k:Nat):Int):=by
 show an k (.ofNat n)=_;simp only [an,hf_u h,h];cases a:Nat.blt n (pw k)with
 |true=>rw [Nat.blt_eq]at a;rw [cond_true,Nat.mod_eq_of_lt a];rfl|false=>rfl
theorem xw{k:IntKind}(h:sgn k=false)(a:n<pw k):an k (n:Int)=(n:Int):=by rw [wrapN h,Nat.mod_eq_of_lt a]
section
variable{E:Env}{t:TypeId}{p q:Operand}{x y:Nat}{k k':IntKind}
theorem bitsU(op:BinOp)(a:x<pw k)(b:y<pw k):jv op k (x:Int) (y:Int)=match op with
 | .and=>some (an k ((x&&& y:Nat):Int))| .or=>some (an k ((x|||y:Nat):Int))
 | .xor=>some (an k ((x ^^^y:Nat):Int))| .andNot=>some (an k ((x ^^^(x&&& y):Nat):Int))|_=>none:=by
 show jv op k (.ofNat x) (.ofNat y)=_;have c:Nat.blt x (pw k)=true:=by rw [Nat.blt_eq];exact a
 have d:Nat.blt y (pw k)=true:=by rw [Nat.blt_eq];exact b
 unfold jv;simp only [c,d,Bool.and_self,cond_true];cases op<;>rfl
theorem b_andN(h:sgn k=false)(a:x<pw k)(b:y<pw k):bV E .and t p q (.int k (x:Int)) (.int k (y:Int))=some (.int k ((x&&& y:Nat):Int)):=by show(bif jO k k then(jv .and k (x:Int) (y:Int)).map (Value.int k ·)else none)=_;rw [bitsU .and a b,hU];simp only [xw h (Nat.lt_of_le_of_lt Nat.and_le_left a)];rfl
end
def sv(l:Bs):Value:=.string (iV l)
theorem wrap_u64(x:Int):an .u64 x=(u64 x:Int):=by
 cases x with
 |ofNat m=>exact(wrapN rfl m).trans (by unfold u64;rw [show Int.ofNat m=(m:Int)from rfl];simp only [pw];omega)|negSucc m=>show((pw .u64-1-m%pw .u64:Nat):Int)=_;unfold u64;simp only [pw];omega
theorem netRaw_ok(D:OZ h0){j:Gra}(p:kQ j)(F:aS h0 E (ptrTo y) j):
 Ret zM 17 [ptrTo y] h0 fun r h'=>Gr h0 h'/\ ∃k l f,r=jh j k l f/\dQ h' k l f j/\(∀c,aq k c\/aq l c\/aq f c->h0.n<=c)/\WrK h' 3 c7 f j.arcs/\ ∀c,aq f c-> ¬aq k c/\ ¬aq l c:=by
 have S:=Si D;obtain⟨b,k,l,f,N,O,e,r,G,_⟩:=F.ex;cases e;have H:=r.load (o:=0) (n:=4) (lbt rfl);refine aa (n:=11) (rs:=[.cell 2 57]) rfl Tryz.e17 rfl rfl rfl (lbt rfl) ?_;simp only [BZ];refine ac aA S ?_;clear S;intro h z S A;simp only [BZ,S.old H (fun h=>h),Xt,XG,XH,seval];have I:=S.fr.n;have B:Ret zM 63 [jh j k l f] h _:=own_ok S.ok p (G.gr S.gr);unfold jh at B;refine step_ret B ?_;rintro v h ⟨g,q,s,t,rfl,a,u,w,d⟩;have J:=a.X.fl;have K:=a.Y.fl;have L:=a.A.fl;have M:=(S.row (b:=z) m0).lt S.ok;replace S:=S.call g;simp only [BZ,seval];refine aC (S.store (i:=0) rfl Tryz.t57.2.1 (by intro x e;cases e) rfl (by simp only [ae,Xr,Xs,J.2.1,K.2.1,L.2.1,Xb];rfl) (lbt rfl) ono) ?_;clear S;rintro h' ⟨S,C⟩;simp only [LC,ae,lay,Xg,Xh,seval]at S;simp only [BZ,ab];refine(bw (by decide) (by simp only [aD,ah,seval];exact bj Tryz.t57.1 Tryz.t57.2.1 (S.lds (b:=z) (o:=0) (n:=4) m0 (lbt rfl)))).2 (bS.2 ?_);exact⟨S.gr,q,s,t,rfl,a.mo C (fun c m e=>by have:=u c m;omega),fun c m=>Xj I (u c m),w.mo C (fun c m e=>by have:=u c (.inr (.inr m));omega),d⟩
def byB(n:Nat)(B:Nat->Nat):Bs:=(zO n).map fun j=>UInt8.ofNat (B j)
def kT(l:List (List Int))(i:Nat):List Int:=l.getD i []
def TabM(h:Hp)(p:Value)(N:Nat)(T:Tab):Prop:=(∃m,TabAt h m p N T.l (kT T.to) (kT T.fr))/\TabL N T
theorem TabM.gr{h h':Hp}{p:Value}{N:Nat}{T:Tab}(t:TabM h p N T)(g:Gr h h'):TabM h' p N T:=⟨by obtain⟨m,x⟩:=t.1;exact⟨m,x.gr g⟩,t.2⟩
def CelM(h:Hp)(e f:Value)(c:Gra)(m:List Int)(F:Bs):Prop:= ∃k d g b a B,j7 h k e m/\m.length=c.nodes/\f=ptrTo d/\gP m+1=((b:Nat):Int)/\eu h d g b c.arcs.length a B/\F=byB (b*a) B/\(∀x∈m,0<=x/\x<256)/\ ¬yE m/\a=(c.arcs.length+7)/8/\Tz c.arcs.length a B
theorem CelM.gr{h h':Hp}{n o:Value}{p:Gra}{m:List Int}{F:Bs}(c:CelM h n o p m F)(g:Gr h h'):CelM h' n o p m F:=by obtain⟨k,q,r,j,l,B,a,b,c,d,e,f,i⟩:=c;exact⟨k,q,r,j,l,B,a.gr g,b,c,d,e.gr g,f,i⟩
def TabX(h:Hp)(p:Value)(N:Nat):Option Tab->Prop
 |none=>p=.pointer none|some T=>TabM h p N T
def CelX(h:Hp)(a b:Value)(c:Gra):Option (List Int×Bs)->Prop
 |none=>a=.pointer none/\b=.pointer none|some (m,F)=>CelM h a b c m F
theorem TabX.gr{h h':Hp}{p:Value}{N:Nat}{T:Option Tab}(t:TabX h p N T)(g:Gr h h'):TabX h' p N T:=by
 cases T with
 |none=>exact t|some T=>exact TabM.gr t g
theorem CelX.gr{h h':Hp}{a b:Value}{d:Gra}{C:Option (List Int×Bs)}(t:CelX h a b d C)(g:Gr h h'):CelX h' a b d C:=by
 cases C with
 |none=>exact t|some c=>exact CelM.gr t g
def ImC(h:Hp)(pn a b c:Value)(I:Img):Prop:=(∃d,aS h d pn I.g)/\kQ I.g/\TabX h a I.g.nodes I.T/\CelX h b c I.g I.C
theorem ImC.gr{h h':Hp}{pn a b c:Value}{I:Img}(i:ImC h pn a b c I)(g:Gr h h'):ImC h' pn a b c I:=⟨by obtain⟨d,n⟩:=i.1;exact⟨d,n.gr g⟩,i.2.1,i.2.2.1.gr g,i.2.2.2.gr g⟩
def ImAt(h:Hp)(b:Nat)(I:Img):Prop:= ∃a c d e,Row h b [a,c,d,e] 1/\ImC h a c d e I
theorem ImAt.gr{h h':Hp}{b:Nat}{I:Img}(i:ImAt h b I)(g:Gr h h'):ImAt h' b I:=by obtain⟨a,d,e,f,r,c⟩:=i;exact⟨a,d,e,f,r.gr g,c.gr g⟩
theorem TabM.ptr{T:Tab}(t:TabM h p N T): ∃b,p=ptrTo b:=by obtain⟨⟨m,t⟩,_⟩:=t;obtain⟨b,_,_,_,e,_⟩:=t.ex;exact⟨b,e⟩
theorem CelM.ptr{a d:Value}{i:Gra}{m:List Int}{F:Bs}(c:CelM h a d i m F): ∃b c,a=ptrTo b/\d=ptrTo c:=by obtain⟨k,j,n,f,g,B,⟨b,_,e,_⟩,_,l,_⟩:=c;exact⟨b,j,e,l⟩
theorem aS.ptr{c:Gra}(n:aS h a p c): ∃b,p=ptrTo b:=by obtain⟨b,_,_,_,_,_,e,_⟩:=n.ex;exact⟨b,e⟩
end Go.Ab

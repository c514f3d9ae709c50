/- Nets, cells, flags: what the functions do (part 4). -/
import Derived.Test.YtddjlflghenhkaaGreatDoorKctC
open Go.Ab.Tryz
open Go.Ab.Tryz renaming abEnv->zM
open List renaming range->zO,getElem?_eq_getElem->Xc,take_succ_eq_append_getElem->Xe,getD_eq_getElem?_getD->Xg,getElem_mem->Xh,take->Xi,drop->Xj,not_mem_nil->Xk,getElem?_map->Xm,take_length->Xn,mem_cons->Xo,length_map->Xp,all_cons->Xr,getElem?_append_right->Xs,getElem?_append_left->Xu,all_nil->Xv,drop_zero->Xx,map_cons->XA,perm_append_comm->XB,mem_append->XC,map_nil->XD,mem_singleton->XH,filterMap_nil->XI,set_cons_zero->XJ,drop_eq_getElem_cons->XL,length_take->XM,getElem?_cons_zero->XO,getElem?_cons_succ->XP,append_nil->XQ,take_zero->XR,flatMap_append->XS,filterMap_cons->XT,take_succ_cons->XU
open Nat renaming lt_of_lt_of_le->Xa,zero_le->Xd,lt_of_succ_le->Xf,le_trans->Xl,mul_one->Xt,zero_add->Xw,le_refl->Xz,zero_ne_one->XE,zero_mul->XF,one_mul->XG,add_sub_cancel_left->XN
open Bool renaming and_true->Xb
open Int renaming eq_ofNat_of_zero_le->Xq,toNat_natCast->Xy
open Function renaming comp_def->XK
set_option maxHeartbeats 4000000
set_option linter.defProp false
set_option linter.unusedVariables false
set_option linter.unusedSimpArgs false
namespace Go.Ab
variable{h h' h0 hB hq:Hp}
variable{f:Nat->Bool}
variable{N a b b1 b2 b4 b5 bq d i j k m mk n nb r s w x z:Nat}
variable{p pn v y:Value}
variable{B c:Nat->Nat}
variable{l:List Int}
variable{γ:Gra}
variable{F xs:List Nat}
variable{g:FuncId}
variable{Q R:Nat->List Int}
variable{D:Nat->Prop}
variable{t:Int}
variable{okF okT okW okX:Bool}
open Go.Proofs
set_option maxRecDepth 10000
structure gJ(h:Hp)(nb:Nat)(p:Value)(N:Nat)(m:List Int)(c:Nat->Nat):Prop where
 at0:jU h nb p m
 len:m.length=N
 val: ∀v,v<N->m.getD v 0=(c v:Int)
theorem gJ.gr{h h':Hp}{a N:Nat}{p:Value}{m:List Int}{c:Nat->Nat}(x:gJ h a p N m c)(g:Gr h h'):gJ h' a p N m c:=⟨x.at0.gr g,x.len,x.val⟩
theorem gJ.keep{h h':Hp}{a N:Nat}{p:Value}{m:List Int}{c:Nat->Nat}(d:OZ h)(x:gJ h a p N m c)(g:fU h h'):gJ h' a p N m c:=by obtain⟨b,v,rfl,r,s,e,f⟩:=x.at0;exact⟨⟨b,v,rfl,g.row d r,s.keep d g,e,f⟩,x.len,x.val⟩
theorem uM(e:OZ h0){f:Nat}{m:List Int}(x:gJ h0 f p N m c){v:Nat}(g:v<N):aT zM 57 [p,.int .i64 (v:Nat)] h0 (.int .i64 (c v:Nat)):=by
 have S:=Si e;obtain⟨b,t,rfl,r,s,_,_⟩:=x.at0;have h:=r.load1 (o:=0) rfl;have u:=x.len;have j: ¬(v:Int)<0:=by omega
 have k: ¬(m.length:Int)<=(v:Int):=by omega
 obtain⟨d,o,l,a⟩:=s.ix (kd:=.i64) (bV .i64) (i:=v) (by omega);have q:m[v]'(by omega)=(c v:Int):=by rw [<-x.val v g,Xg,Xc (by omega)];rfl
 rw [q]at a;replace a:h0.load d o 1=some [.int .i64 (c v:Nat)]:=a;refine aa (n:=27) (rs:=[.tmp 4]) rfl Tryz.e57 rfl rfl rfl (lbt rfl) ?_;simp only [BZ,ab,j,h,s.lenq,k,l,a,seval];exact S.gr
theorem inside_ok(y:OZ h0){B l N:Nat}{m:List Int}(g:Good γ)(C:aX h0 z (ptrTo l) γ)(x:gJ h0 B p γ.nodes m c)(j:a<γ.arcs.length):
 aT zM 184 [ptrTo l,p,.int .i64 (k:Nat),.int .i64 (a:Nat)] h0 (.bool (decide (c (γ.arcs.getD a default).s=k/\c (γ.arcs.getD a default).t=k))):=by
 have S:=Si y;have I:Fl p:=by obtain⟨b,_,rfl,_⟩:=x.at0;exact bH
 have q:γ.arcs[a]=γ.arcs.getD a default:=by simp [Xg,j]
 have D:γ.arcs.getD a default∈γ.arcs:=by rw [<-q];exact Xh j
 obtain⟨r,s,_⟩:=g.arcs _ D;refine aa (n:=34) (rs:=[.tmp 8]) rfl Tryz.e184 rfl rfl rfl (lbt rfl) ?_;simp only [BZ,seval];refine step_ret (kC S.ok C j) ?_;rintro J h ⟨E,rfl⟩;replace S:=S.call E;rw [q];generalize γ.arcs.getD a default=A at r s;simp only [BZ,di,seval];refine ae aA S ?_;clear S;intro h t S u;simp only [BZ,seval];refine aE (S.store (i:=0) rfl ?_ ?_ rfl rfl ?_ ono) ?_
 . exact(by exact Tryz.t135.2.1)
 . exact(by intro x e;cases e)
 . exact lbt rfl
 clear S;rintro h ⟨S,F⟩;clear F;simp only [LC,ag,lay,Xi,Xj,seval]at S;simp only [BZ,S.ld (b:=t) (o:=0) m0 rfl,seval];refine am (uM S.ok (x.gr S.gr) r) ?_;intro K G;replace S:=S.call G;by_cases v:c A.s=k
 . have d:(c A.s:Int)=(k:Int):=(by omega);simp only [BZ,d,S.ld (b:=t) (o:=1) m0 rfl,seval];refine am (uM S.ok (x.gr S.gr) s) ?_;intro L H;replace S:=S.call H;by_cases w:c A.t=k
   . have f:(c A.t:Int)=(k:Int):=(by omega);simp only [BZ,ab,f,seval];exact⟨by rw [decide_eq_true ⟨v,w⟩],S.gr⟩
   . have f: ¬(c A.t:Int)=(k:Int):=(by omega);simp only [BZ,ab,f,seval];exact⟨by rw [decide_eq_false (fun h=>w h.2)],S.gr⟩
 . have d: ¬(c A.s:Int)=(k:Int):=(by omega);simp only [BZ,ab,d,seval];exact⟨by rw [decide_eq_false (fun h=>v h.1)],S.gr⟩
theorem pairN{x:Option Tch}:js none x=true:=by cases x<;>rfl
theorem fU.grk(k:fU hq h0)(n:hq.n<=h0.n)(g:Gr h0 h):fU hq h:=fun b a=>(g.get b (Xa a n)).trans (k b a)
def HoldP(E:Env)(hq:Hp)(g:FuncId)(post:List Value)(N:Nat)(f:Nat->Bool):Prop:= ∀h,OZ h->fU hq h->hq.n<=h.n-> ∀v,v<N->aT E g ([.int .i64 (v:Nat)]++post) h (.bool (f v))
theorem indexI_ok(a:OZ h0)(s:fU hq h0)(p:hq.n<=h0.n){post:Array Value}(l:az h0 1 bO v xs)(C:xs.length<=1000)(t: ∀x∈xs,x<N)(hf:HoldP zM hq g post.toList N f):
 Ret zM 234 [v,.func (.func g) #[] post] h0 fun r h'=>Gr h0 h'/\ ∃z:Int,r=.int .i64 z/\(0<=z↔xs.any f=true):=by
 have S:=Si a;have D:=l.fl;refine aa (n:=19) (rs:=[.tmp 4]) rfl Tryz.e234 rfl rfl rfl (lbt rfl) ?_;simp only [BZ,l.lenq,seval];refine bj (fun(i:Nat) b h=>i<=xs.length/\Gr h0 h/\(∀j,(k:j<xs.length)->j<i->f xs[j]=false)/\b 0=v/\b 1=.func (.func g) #[] post/\b 7=.int .i64 (xs.length:Nat)/\b 8=.int .i64 i) (fun i=>xs.length-i) ?_ 0 _ _ ?_
 . clear S;intro i u b h ⟨hi,g1,hno,r0,r1,r7,r8⟩;have w:au .i64 ((i:Int)+1)=((i+1:Nat):Int):=(by rw [wrap64]<;>omega);by_cases hlt:i<xs.length
   . obtain⟨c,o,y,m⟩:=(l.gr g1).ix (kd:=.i64) dr hlt;replace m:h.load c o 1=some [.int .i64 (xs[i]:Nat)]:=m;simp only [BZ,r0,r1,r7,r8,aG,hlt,y,m,seval];refine am (hf _ g1.ok (s.grk p g1) (Xl p g1.n) xs[i] (t _ (Xh hlt))) ?_;intro E q;cases d:f xs[i]with
     | true=>
       simp only [BZ,ab,seval];refine⟨g1.trans q,_,rfl,⟨fun _=>List.any_eq_true.2 ⟨_,Xh hlt,d⟩,fun _=>by omega⟩⟩
     | false=>
       simp only [BZ,r8,w,seval];refine u (i+1) _ _ (by omega) ⟨by omega,g1.trans q,fun j k A=>?_,by simp [aD,r0,r1,r7]⟩;by_cases e:j=i
       . subst e;exact d
       . exact hno j k (by omega)
   . simp only [BZ,ab,r7,r8,aG,hlt,seval];refine⟨g1,_,rfl,⟨fun h=>by omega,fun h=>?_⟩⟩;obtain⟨x,B,d⟩:=List.any_eq_true.1 h;obtain⟨j,k,e⟩:=List.getElem_of_mem B;rw [<-e,hno j k (by omega)]at d;cases d
 . exact⟨Xd _,Gr.refl a,fun j _ h=>by omega,by simp [aD,c8]⟩
theorem Bc(a:OZ h0)(j:fU hq h0)(k:hq.n<=h0.n){post:Array Value}(d:az h0 1 bO v xs)(l:xs.length<=1000)(m: ∀x∈xs,x<N)(hf:HoldP zM hq g post.toList N f):
 aT zM 170 [v,.func (.func g) #[] post] h0 (.bool (xs.any f)):=by
 have S:=Si a;have o:=d.fl;refine aa (n:=9) (rs:=[.tmp 4]) rfl Tryz.e170 rfl rfl rfl (lbt rfl) ?_;simp only [BZ,seval];refine step_ret (indexI_ok a j k d l m hf) ?_;rintro r h ⟨e,z,rfl,i⟩;cases b:xs.any f with
 | true=>have c:=i.2 b;simp only [BZ,ab,c,seval];exact e| false=>
   have c: ¬0<=z:=fun h=>(by rw [i.1 h]at b;cases b);simp only [BZ,ab,c,seval];exact e
section
variable{hq:Hp}{γ:Gra}{nb mb bp k:Nat}{p:Value}{m:List Int}{c:Nat->Nat}
def beyB(γ:Gra)(c:Nat->Nat)(k a:Nat):Bool:=!decide (c (γ.arcs.getD a default).s=k)
theorem beyond_ok(f:OZ hq)(u:Good γ)(I:aX hq nb (ptrTo bp) γ)(x:gJ hq mb p γ.nodes m c)(J:hq.load b1 0 1=some [ptrTo bp])(y:hq.load b2 0 1=some [p])(z:hq.load w 0 1=some [.int .i64 (k:Nat)]):
 HoldP zM hq 239 [ptrTo b1,ptrTo b2,ptrTo w] γ.arcs.length (beyB γ c k):=by
 intro h K g L a v;have S:=Si K;have B:γ.arcs[a]=γ.arcs.getD a default:=by simp [Xg,v]
 have M:γ.arcs.getD a default∈γ.arcs:=by rw [<-B];exact Xh v
 obtain⟨C,N,_⟩:=u.arcs _ M;refine aa (n:=24) (rs:=[.tmp 5]) rfl Tryz.e239 rfl rfl rfl (lbt rfl) ?_;simp only [BZ,g.load f J,seval];refine step_ret (kC S.ok (I.keep f g) v) ?_;rintro R T ⟨O,rfl⟩;replace S:=S.call O;unfold beyB;rw [B];generalize γ.arcs.getD a default=A at C N;simp only [BZ,di,seval];refine ae aA S ?_;clear S;intro h D S E;simp only [BZ,seval];refine aE (S.store (i:=0) rfl ?_ ?_ rfl rfl ?_ ono) ?_
 . exact(by exact Tryz.t135.2.1)
 . exact(by intro x e;cases e)
 . exact lbt rfl
 clear S;rintro h ⟨S,P⟩;clear P;simp only [LC,ag,lay,Xi,Xj,seval]at S;have l:=g.grk L S.gr;obtain⟨b,U,rfl,r,s,_,_⟩:=(x.keep f l).at0;have F:=r.load1 (o:=0) rfl;have V:=x.len;obtain⟨d,o,G,t⟩:=s.ix (kd:=.i64) (bV .i64) (i:=A.s) (by omega);have Q:m[A.s]'(by omega)=(c A.s:Int):=by rw [<-x.val A.s C,Xg,Xc (by omega)];rfl
 rw [Q]at t;simp only [encI]at t;simp only [BZ,seval];refine ar (aw rfl) (q:=0) (ps:=[]) (by kernel_rfl) ?_;by_cases H:c A.s=k
 . have j:(c A.s:Int)=(k:Int):=(by omega);simp only [BZ,cls,ab,l.load f y,l.load f z,F,G,t,j,S.ld (b:=D) (o:=0) m0 rfl,seval];exact⟨by rw [decide_eq_true H];rfl,S.gr⟩
 . have j: ¬(c A.s:Int)=(k:Int):=(by omega);simp only [BZ,cls,ab,l.load f y,l.load f z,F,G,t,j,S.ld (b:=D) (o:=0) m0 rfl,seval];exact⟨by rw [decide_eq_false H];rfl,S.gr⟩
def borB(γ:Gra)(c:Nat->Nat)(k v:Nat):Bool:=decide (c v=k)&&(outs γ.arcs Arc.t γ.arcs.length v).any (beyB γ c k)
theorem Eu(f:OZ hq)(j:Good γ)(B:aX hq nb (ptrTo bp) γ)(x:gJ hq mb p γ.nodes m c){y:Nat}(C:hq.load b1 0 1=some [p])(D:hq.load b2 0 1=some [.int .i64 (k:Nat)])(E:hq.load y 0 1=some [ptrTo bp])(l4:hq.load b4 0 1=some [.func (.func 239) #[] #[ptrTo y,ptrTo b1,ptrTo b2]]):
 HoldP zM hq 241 [ptrTo b1,ptrTo b2,ptrTo y,ptrTo b4] γ.nodes (borB γ c k):=by
 intro h l g F v G;have S:=Si l;obtain⟨b,vm,rfl,r,s,_,_⟩:=(x.keep f g).at0;have H:=r.load1 (o:=0) rfl;have hl:=x.len;obtain⟨d,o,I,w⟩:=s.ix (kd:=.i64) (bV .i64) (i:=v) (by omega);have ev:m[v]'(by omega)=(c v:Int):=by rw [<-x.val v G,Xg,Xc (by omega)];rfl
 rw [ev]at w;replace w:h.load d o 1=some [.int .i64 (c v:Nat)]:=w;have z:=g.load f C;have A:=g.load f D;have J:=g.load f E;have K:=g.load f l4;have L:=bC l z;have M:=bC l A;have N:=bC l J;have O:=bC l K;have P:=r.lt l;have Q:=bC l w;unfold borB;by_cases R:c v=k
 . have t:(c v:Int)=(k:Int):=(by omega);refine aa (n:=23) (rs:=[.tmp 6]) rfl Tryz.e241 rfl rfl rfl (lbt rfl) ?_;simp only [BZ];refine ar (aw rfl) (q:=0) (ps:=[(12,13)]) (by kernel_rfl) ?_;simp only [BZ,cls,z,A,J,H,I,w,t,seval];refine bQ (xt S.ok (B.keep f g) (by have:=j.many;omega) G) ?_;rintro vl h2 ⟨e,sl,_⟩;have T:=ah e L;have U:=ah e M;have V:=ah e N;have W:=ah e O;have X:=ah e P;have Y:=ah e Q;replace S:=S.call e;simp only [BZ,cls,e.load K,seval];refine bg (Bc S.ok (g.grk F e) (Xl F e.n) sl (by have:=j.many;have:=kK γ.arcs Arc.t γ.arcs.length v;omega) (fun a ha=>(mL.1 ha).1) (post:=#[ptrTo y,ptrTo b1,ptrTo b2]) (beyond_ok f j B x E C D)) ?_;intro h3 u;have Z:=ah u (Xa L e.n);have w2:=ah u (Xa M e.n);have w3:=ah u (Xa N e.n);have w4:=ah u (Xa O e.n);have wb:=ah u (Xa P e.n);have wd:=ah u (Xa Q e.n);replace S:=S.call u;simp only [BZ,cls,ab,seval];refine⟨by simp only [aK,aO,aH,aQ,aJ,ne_eq,not_false_eq_true,aS,bz,aN,aM,bG,bS,aC,Xb,an,cK,dw,aq T,aq U,aq V,aq W,aq X,aq Y,ao T,ao U,ao V,ao W,ao X,ao Y,aq Z,aq w2,aq w3,aq w4,aq wb,aq wd,ao Z,ao w2,ao w3,ao w4,ao wb,ao wd,seval],?_⟩;exact⟨by rw [decide_eq_true R,Bool.true_and],S.gr⟩
 . have t: ¬(c v:Int)=(k:Int):=(by omega);refine aa (n:=23) (rs:=[.tmp 6]) rfl Tryz.e241 rfl rfl rfl (lbt rfl) ?_;simp only [BZ];refine ar (aw rfl) (q:=0) (ps:=[(12,13)]) (by kernel_rfl) ?_;simp only [BZ,cls,ab,z,A,H,I,w,t,seval];refine⟨by simp only [aK,aO,aH,aQ,aJ,ne_eq,not_false_eq_true,aS,bz,aN,aM,bG,bS,aC,Xb,an,cK,dw,jq,pairN,seval],?_⟩;exact⟨by rw [decide_eq_false R,Bool.false_and],S.gr⟩
end
theorem cnodes_ok(d:OZ h0){c:Value}(e:Fl p)(f:Fl c):Ret zM 240 [p,c] h0 fun v h'=>Gr h0 h'/\ ∃b1 b2,v=.func (.func 264) #[] #[ptrTo b1,ptrTo b2]/\h0.n<=b1/\h0.n<=b2/\h'.load b1 0 1=some [p]/\h'.load b2 0 1=some [c]:=by have S:=Si d;refine aa (n:=6) (rs:=[.tmp 4]) rfl Tryz.e240 rfl rfl rfl (lbt rfl) ?_;simp only [BZ,seval];refine ae (bN (by assumption)) S ?_;clear S;intro h b1 S a;simp only [BZ,if_false,seval];refine ae (bN (by assumption)) S ?_;clear S;intro h b2 S b;simp only [BZ,ab,seval];exact⟨S.gr,b1,b2,rfl,a,b,S.ld m1 rfl,S.ld m0 rfl⟩
theorem cnodes_it  (l:OZ hq) (j:OZ h0) (B:fU hq h0) (q:hq.n<=h0.n) {H:Nat}  {m:List Int}  (x:gJ hq H p N m c) (S:N<=1000)   {post:Array Value}  (hf:HoldP zM hq g post.toList N f)
 (I:h0.load b1 0 1=some [p]) (K:h0.load b2 0 1=some [.func (.func g) #[] post]):
 nG zM 264 [] [ptrTo b1,ptrTo b2] h0 (fun c=>c=b1\/c=b2\/c<hq.n) (((zO N).filter f).map fun(v:Nat)=>[.int .i64 (v:Nat)]):=by
 intro L J Z M Y h F s d;have C:=s.load j I (.inl rfl);obtain⟨b,T,rfl,r,D,_,_⟩:=(x.keep l (s.keep B q (fun c t=>.inr (.inr t)))).at0;have E:=r.load1 (o:=0) rfl;have U:=x.len;have u:(m.length:Int)=(N:Int):=by omega
 refine enter (n:=25) (rs:=[]) rfl Tryz.e264 rfl rfl rfl (lbt rfl) ?_;simp only [BZ,C,E,D.lenq,u,seval];refine bj (fun(i:Nat) e h=>i<=N/\ ∃F,ItS h0 (fun c=>c=b1\/c=b2\/c<hq.n) h F/\J ((zO i).filter f).length h F/\e 0=.func (.yield L) #[] #[]/\e 1=ptrTo b1/\e 2=ptrTo b2/\e 11=.int .i64 (N:Nat)/\e 12=.int .i64 i) (fun i=>N-i) ?_ 0 _ _ ?_
 . clear C s d F r D E h;intro i G e h ⟨hi,F,s,d,r0,r1,r2,r11,r12⟩;have w:au .i64 ((i:Int)+1)=((i+1:Nat):Int):=(by rw [wrap64]<;>omega);by_cases hlt:i<N
   . have O:=s.load j K (.inr (.inl rfl));simp only [BZ,r2,r11,r12,aG,hlt,O,seval];refine am (hf _ s.ok (s.keep B q (fun c t=>.inr (.inr t))) (Xl q s.n) i hlt) ?_;intro V k;cases y:f i with
     | true=>
       have P:(((zO N).filter f).map fun(v:Nat)=>[Value.int .i64 (v:Nat)])[((zO i).filter f).length]? =some [.int .i64 (i:Nat)]:=(by rw [Xm,uO y _ hlt];rfl);have z:((zO (i+1)).filter f).length=((zO i).filter f).length+1:=(by rw [kI,if_pos y];simp);simp only [BZ,r0,seval];refine du Y (s.gr k) (Y.gr _ _ _ _ d k) (i:=((zO i).filter f).length) P ?_ ?_ ?_
       . intro A Q a R _ _;simp only [BZ,r12,w,seval];exact G (i+1) _ _ (by omega) ⟨by omega,Q,R,by rw [z];exact a,by simp [aD,r0,r1,an,r2,r11]⟩
       . intro A a _;simp only [BZ,seval];exact iE rfl ⟨rfl,.inr (.inl ⟨_,rfl,a⟩)⟩
       . intro v A a;exact absurd a (M v A)
     | false=>have z:(zO (i+1)).filter f=(zO i).filter f:=(by rw [kI,if_neg (by rw [y];decide)];simp);simp only [BZ,r12,w,seval];exact G (i+1) _ _ (by omega) ⟨by omega,F,s.gr k,by rw [z];exact Y.gr _ _ _ _ d k,by simp [aD,r0,r1,an,r2,r11]⟩
   . simp only [BZ,r11,r12,aG,hlt,seval];have:i=N:=(by omega);subst this;exact cE (cu ⟨rfl,_,rfl,rfl,.inl ⟨_,F,rfl,by simpa using d⟩⟩)
 . exact⟨Xd _,F,s,d,by simp [aD,c8,an]⟩
theorem border_ok(y:OZ h0){Q R D:Nat}{m:List Int}(a:Good γ)(E:aX h0 Q (ptrTo D) γ)(x:gJ h0 R p γ.nodes m c):
 Ret zM 185 [p,ptrTo D,.int .i64 (k:Nat)] h0 fun r h'=>Gr h0 h'/\az h' 1 bO r ((zO γ.nodes).filter (borB γ c k))/\ ∀c,av r c->h0.n<=c:=by
 have S:=Si y;have fp:Fl p:=by obtain⟨b,_,rfl,_⟩:=x.at0;exact bH
 obtain⟨bc,T,rfl,r,s,_,_⟩:=x.at0;have U:=r.load1 (o:=0) rfl;have V:=x.len;have W:=a.n1;have n2:=a.n2;have z:(m.length:Int)=(γ.nodes:Int):=by omega
 obtain⟨F,ov,sv,cv,X⟩: ∃d o s c,T=.slice (some ⟨d,o,s⟩) m.length c:=by
  rcases s with⟨_,e⟩|⟨d,o,s,c,e,_⟩
  . subst e;simp at V;omega
  . exact⟨d,o,s,c,e⟩
 subst X;have A:F<h0.n:=s.lt y (b:=F) rfl;refine aa (n:=29) (rs:=[.tmp 6]) rfl Tryz.e185 rfl rfl rfl (lbt rfl) ?_;simp only [BZ,seval];refine ae (bN (by exact bH)) S ?_;clear S;intro h j S G;simp only [BZ,if_false,seval];refine ae (bN (by exact bH)) S ?_;clear S;intro h t S H;simp only [BZ,if_false,seval];refine ae (bN (by exact aU)) S ?_;clear S;intro h I S J;have Y:=(S.row (b:=j) m2).lt S.ok;have Z:=(S.row (b:=t) m1).lt S.ok;have zc:=Xa (r.lt y) S.gr.n;have zd:=Xa A S.gr.n;have B:=S.gr.load U;have s':=s.gr S.gr;simp only [BZ];refine ar (aw rfl) (q:=0) (ps:=[(8,13),(8,12),(8,9)]) (by kernel_rfl) ?_;simp only [BZ,cls,S.ld (b:=j) (o:=0) m2 rfl,S.ld (b:=t) (o:=0) m1 rfl,seval];refine bg (bM S.ok (E.gr S.gr)) ?_;intro h1 l;have K:=ah l Y;have L:=ah l Z;have M:=ah l zc;have N:=ah l zd;have u:=l.load B;replace S:=S.call l;simp only [BZ,cls,u,s'.lenq,z,S.ld (b:=j) (o:=0) m2 rfl,S.ld (b:=t) (o:=0) m1 rfl,seval];refine⟨by simp only [aK,aO,aH,aQ,aJ,ne_eq,not_false_eq_true,aS,bz,aN,aM,bG,bS,aC,Xb,an,tt,aq K,aq L,aq M,ao K,ao L,ao M,aq N,ao N,seval],?_⟩;refine ae aA S ?_;clear S;intro h O S P;simp only [BZ,seval];refine aE (aF S (i:=0) rfl Tryz.t124.2.1 eh (Xf (lbt rfl)) ono) ?_;clear S;rintro h2 ⟨S,_⟩;simp only [LC]at S;simp only [BZ,S.ld (b:=j) (o:=0) m3 rfl,seval];have C:=S.gr;have w:=S.ok;have l3:=S.ld (b:=j) (o:=0) m3 rfl;have l4:=S.ld (b:=t) (o:=0) m2 rfl;have l5:=S.ld (b:=I) (o:=0) m1 rfl;have l7:=S.ld (b:=O) (o:=0) m0 rfl;have hf:=Eu w a (E.gr C) (x.gr C) l3 l5 l4 l7;refine step_ret (cnodes_ok S.ok bH eh) ?_;rintro v h4 ⟨g,b1,b2,rfl,W,ac,y1,y2⟩;have it:=cnodes_it w g.ok g.keep g.n (x.gr C) (by omega) (g:=241) (post:=#[ptrTo j,ptrTo I,ptrTo t,ptrTo O]) hf y1 y2;replace S:=S.call g;simp only [BZ,seval];refine step_ret (wU S.ok (g:=264) (post:=#[ptrTo b1,ptrTo b2]) (iter_w it) (fun _ h=>h.elim) (by have:=sH (n:=γ.nodes) (f:=borB γ c k);omega)) ?_;rintro r h5 ⟨f5,G5,d5⟩;have g5:=f5.gr;have k5:=S.fr.n;replace S:=S.call g5;simp only [BZ,ab,seval];exact⟨S.gr,G5.sl rfl dr (by decide),fun c hc=>by have:=d5 c hc;omega⟩
theorem D6(c:OZ h0)(e:aX h0 d (ptrTo a) γ)(i:b<γ.nodes):aT zM 265 [ptrTo a,.int .i64 (b:Nat)] h0 (.bool true):=by
 have S:=Si c;have f:(0:Int)<=(b:Int):=by omega
 have g:(b:Int)<(γ.nodes:Int):=by omega
 refine aa (n:=17) (rs:=[.tmp 4]) rfl Tryz.e265 rfl rfl rfl (lbt rfl) ?_;simp only [BZ,f,seval];refine am (bM S.ok e) ?_;intro j h;simp only [BZ,ab,g,seval];exact h
noncomputable def lV(γ:Gra)(b a:Nat):Bool:=decide (dOf (seen γ.arcs Arc.t Arc.s) b (γ.arcs.getD a default).s<FAR/\dOf (seen γ.arcs Arc.t Arc.s) b (γ.arcs.getD a default).t<FAR/\dOf (seen γ.arcs Arc.t Arc.s) b (γ.arcs.getD a default).s=(γ.arcs.getD a default).w+dOf (seen γ.arcs Arc.t Arc.s) b (γ.arcs.getD a default).t)
def HoldA(E:Env)(hq:Hp)(x:Nat)(g:FuncId)(post:List Value)(N:Nat)(f:Nat->Bool):Prop:= ∀h,OZ h->(∀b,b<hq.n->b≠x->h.get b=hq.get b)->hq.n<=h.n-> ∀v,v<N->aT E g ([.int .i64 (v:Nat)]++post) h (.bool (f v))
theorem nR{o:Nat}{l:List Value}(e:h.load b o n=some l)(g:h'.get b=h.get b):h'.load b o n=some l:=by unfold Hp.load at e⊢;rw [g];exact e
theorem sl_get{a:Type}{enc:a->List Value}{xs:List a}(s:az h k enc v xs)(g: ∀c,av v c->h'.get c=h.get c):az h' k enc v xs:=by
 rcases s with s|⟨b,o,s,c,d,e,f⟩
 . exact .inl s
 . exact .inr ⟨b,o,s,c,d,e,nR f (g b (by rw [d];rfl))⟩
theorem tells1_ok{f:Hp}(z:OZ f)(g:OZ hq)(U:fU f hq)(J:f.n<=hq.n)(hx:f.n<=x)(B:Good γ){V K:Nat}(W:aX f V (ptrTo K) γ)(x2:b2≠x)(X:b5≠x)(L: ∀v,IsD (seen γ.arcs Arc.t Arc.s) b v (dOf (seen γ.arcs Arc.t Arc.s) b v)){vA vO:Value}(M:hq.load b2 0 1=some [ptrTo K])(N:hq.load b5 0 1=some [y])(O:az hq 1 bO y ((zO γ.nodes).map (dOf (seen γ.arcs Arc.t Arc.s) b)))(Y: ∀c,av y c->c≠x):
 HoldA zM hq x 279 [ptrTo b2,ptrTo b5] γ.arcs.length (lV γ b):=by
 intro h Z k nq a C;have kN:fU f h:=fun c p=>(k c (Xa p J) (by omega)).trans (U c p);have nN:f.n<=h.n:=Xl J nq;have e2:=nR M (k b2 (bC g M) x2);have e5:=nR N (k b5 (bC g N) X);have r:az h 1 bO y _:=sl_get O (fun c p=>k c (O.lt g p) (Y c p));have S:=Si Z;have P:γ.arcs[a]=γ.arcs.getD a default:=by simp [Xg,C]
 have hm:γ.arcs.getD a default∈γ.arcs:=by rw [<-P];exact Xh C
 obtain⟨hs,ht,hw⟩:=B.arcs _ hm;unfold lV;have D:=L (γ.arcs.getD a default).s;have E:=L (γ.arcs.getD a default).t;generalize hd:dOf (seen γ.arcs Arc.t Arc.s) b=d at D E r;refine aa (n:=35) (rs:=[.tmp 4]) rfl Tryz.e279 rfl rfl rfl (lbt rfl) ?_;simp only [BZ,e2,seval];refine step_ret (kC S.ok (W.keep z kN) C) ?_;rintro rv h4 ⟨g4,rfl⟩;replace S:=S.call g4;rw [P];generalize γ.arcs.getD a default=A at hs ht hw D E;simp only [BZ,di,seval];refine ae aA S ?_;clear S;intro h s S Q;simp only [BZ,seval];refine aE (S.store (i:=0) rfl ?_ ?_ rfl rfl ?_ ono) ?_
 . exact(by exact Tryz.t135.2.1)
 . exact(by intro x e;cases e)
 . exact lbt rfl
 clear S;rintro h ⟨S,mo⟩;clear mo;simp only [LC,ag,lay,Xi,Xj,seval]at S;have t:=r.gr S.gr;have lD:((zO γ.nodes).map d).length=γ.nodes:=by simp
 obtain⟨c1,o1,x1,F⟩:=t.ix (kd:=.i64) dr (i:=A.t) (by omega);obtain⟨c2,o2,x2,R⟩:=t.ix (kd:=.i64) dr (i:=A.s) (by omega);simp only [List.getElem_map,List.getElem_range,bO]at F R;have G:=S.gr.load e5;have z6:=(S.row (b:=s) m0).lt S.ok;have z5:=bC S.ok G;have zc:=bC S.ok F;simp only [BZ,seval];refine ar (aw rfl) (q:=0) (ps:=[]) (by kernel_rfl) ?_;simp only [BZ,cls,G,x1,F,S.ld (b:=s) (o:=1) m0 rfl,S.ld (b:=s) (o:=2) m0 rfl,seval];refine bg (add_ok S.ok) ?_;intro h7 m;have v6:=ah m z6;have v5:=ah m z5;have vc:=ah m zc;replace S:=S.call m;simp only [BZ,cls,seval];have ac:=gX;have b1:=D.le;have b2:=E.le;have H:wy (wy (wy (d A.t:Nat))+wy (A.w:Nat))=(if d A.t+A.w<FAR then((d A.t+A.w:Nat):Int)else(FAR:Int)):=by
  unfold wy
  repeat' split
  all_goals omega
 rw [H];have u:=m.load G;have w:=m.load R;by_cases hf:d A.t+A.w<FAR
 . rw [if_pos hf];have w1:wy ((d A.t+A.w:Nat):Int)<72057594037927936:=(by unfold wy;omega);have I:decide (wy ((d A.t+A.w:Nat):Int)<72057594037927936)=true:=decide_eq_true w1;refine am (ow S.ok) ?_;intro h8 j;replace S:=S.call j;rw [I];by_cases T:d A.s=A.w+d A.t
   . have l:((d A.t+A.w:Nat):Int)=(d A.s:Int):=(by omega);simp only [BZ,ab,j.load u,x2,j.load w,l,S.ld (b:=s) (o:=0) m0 rfl,seval];exact⟨by rw [decide_eq_true ⟨by omega,by omega,T⟩],S.gr⟩
   . have l: ¬((d A.t+A.w:Nat):Int)=(d A.s:Int):=(by omega);simp only [BZ,ab,j.load u,x2,j.load w,l,S.ld (b:=s) (o:=0) m0 rfl,seval];exact⟨by rw [decide_eq_false (fun h=>T h.2.2)],S.gr⟩
 . rw [if_neg hf];have I:decide (wy (FAR:Int)<72057594037927936)=false:=decide_eq_false (by unfold wy;omega);refine am (ow S.ok) ?_;intro h8 j;replace S:=S.call j;rw [I];simp only [BZ,ab,seval];exact⟨by rw [decide_eq_false (fun h=>by omega)],S.gr⟩
theorem tells_ok{a:Hp}(j:OZ a)(z:OZ h0)(p:Gr a h0)(A:a.n<=x)(B:x<h0.n)(d:Good γ){C q:Nat}(s:aX a C (ptrTo q) γ)(E:b<γ.nodes):
 Ret zM 268 [ptrTo q,.int .i64 (b:Nat)] h0 fun r h'=>Gr h0 h'/\ ∃b2 b5,r=.func (.func 279) #[] #[ptrTo b2,ptrTo b5]/\h0.n<=b2/\h0.n<=b5/\HoldA zM h' x 279 [ptrTo b2,ptrTo b5] γ.arcs.length (lV γ b):=by
 have S:=Si z;refine aa (n:=10) (rs:=[.tmp 4]) rfl Tryz.e268 rfl rfl rfl (lbt rfl) ?_;simp only [BZ,seval];refine ae (bA (by intro x e;cases e)) S ?_;clear S;intro h b2 S f;simp only [ag]at S;simp only [BZ,S.ld (b:=b2) (o:=0) m0 rfl,seval];refine step_ret (tQ S.ok d (s.gr (p.trans S.gr)) E) ?_;rintro r P ⟨F,Q,vA,vO,D,R,O,rfl,k,G,H,_,t,I,_⟩;have T:=S.fr.n;replace S:=S.call F;have J:=k.fl;have K:=G.fl;have L:=H.fl;have u:D=dOf (seen γ.arcs Arc.t Arc.s) b:=funext fun v=>((xU (t v)).1).symm;have l: ∀v,IsD (seen γ.arcs Arc.t Arc.s) b v (dOf (seen γ.arcs Arc.t Arc.s) b v):=fun v=>by rw [<-u];exact t v
 rw [u]at k;simp only [BZ];have M:=S.row (b:=b2) m0;have U:=S.fr.n;have g:=S.gr;have m:=S.ok;clear S;have S:=Si m;refine ae aA S ?_;clear S;intro h b5 S w;simp only [BZ,seval];refine aE (S.store (i:=0) rfl Tryz.t245.2.1 (by intro x e;cases e) rfl (by simp only [ag,Xr,Xv,J.2.1,K.2.1,L.2.1,Xb]) (lbt rfl) ono) ?_;clear S;rintro V ⟨S,_⟩;simp only [LC,ag,lay,Xi,Xj,seval]at S;simp only [BZ,ab,seval];refine⟨g.trans S.gr,b2,b5,rfl,f,by omega,?_⟩;have y:=p.trans (g.trans S.gr);exact tells1_ok j S.ok y.keep y.n A d s (by omega) (by omega) l (vA:=vA) (vO:=vO) ((M.gr S.gr).load1 (o:=0) rfl) (S.ld (b:=b5) (o:=0) m0 rfl) (k.gr S.gr) (fun c N e=>by have:=I c (.inl N);omega)
theorem marked_ok(d:OZ h0){c:Value}(e:Fl c):Ret zM 267 [.int .i64 (n:Nat),c] h0 fun v h'=>Gr h0 h'/\ ∃b1 b2,v=.func (.func 278) #[] #[ptrTo b1,ptrTo b2]/\h0.n<=b1/\h0.n<=b2/\h'.load b1 0 1=some [.int .i64 (n:Nat)]/\h'.load b2 0 1=some [c]:=by have S:=Si d;refine aa (n:=6) (rs:=[.tmp 4]) rfl Tryz.e267 rfl rfl rfl (lbt rfl) ?_;simp only [BZ,seval];refine ae (bN (by exact aU)) S ?_;clear S;intro h b1 S a;simp only [BZ,if_false,seval];refine ae (bN (by assumption)) S ?_;clear S;intro h b2 S b;simp only [BZ,ab,seval];exact⟨S.gr,b1,b2,rfl,a,b,S.ld m1 rfl,S.ld m0 rfl⟩
theorem marked_it  (u:OZ hq) (e:OZ h0) (y:fU hq h0) (q:hq.n<=h0.n)   (H:N<=1000)   {post:Array Value}  (hf:HoldA zM hq x g post.toList N f)
 (z:h0.load b1 0 1=some [.int .i64 (N:Nat)]) (A:h0.load b2 0 1=some [.func (.func g) #[] post]):
 nG zM 278 [] [ptrTo b1,ptrTo b2] h0 (fun c=>c=b1\/c=b2\/(c<hq.n/\c≠x)) (((zO N).filter f).map fun(v:Nat)=>[.int .i64 (v:Nat)]):=by
 intro B J Z C Y h F s b;have r:=s.load e z (.inl rfl);refine enter (n:=19) (rs:=[]) rfl Tryz.e278 rfl rfl rfl (lbt rfl) ?_;simp only [BZ,r,seval];refine bj (fun(i:Nat) d h=>i<=N/\ ∃F,ItS h0 (fun c=>c=b1\/c=b2\/(c<hq.n/\c≠x)) h F/\J ((zO i).filter f).length h F/\d 0=.func (.yield B) #[] #[]/\d 1=ptrTo b1/\d 2=ptrTo b2/\d 5=.int .i64 (N:Nat)/\d 6=.int .i64 i) (fun i=>N-i) ?_ 0 _ _ ?_
 . clear r s b F h;intro i t d h ⟨hi,F,s,b,r0,r1,r2,r5,r6⟩;have w:au .i64 ((i:Int)+1)=((i+1:Nat):Int):=(by rw [wrap64]<;>omega);by_cases hlt:i<N
   . have D:=s.load e A (.inr (.inl rfl));simp only [BZ,r2,r5,r6,aG,hlt,D,seval];refine am (hf _ s.ok (fun c k l=>(s.data c (Xa k q) (.inr (.inr ⟨k,l⟩))).trans (y c k)) (Xl q s.n) i hlt) ?_;intro I j;cases m:f i with
     | true=>
       have l:(((zO N).filter f).map fun(v:Nat)=>[Value.int .i64 (v:Nat)])[((zO i).filter f).length]? =some [.int .i64 (i:Nat)]:=(by rw [Xm,uO m _ hlt];rfl);have o:((zO (i+1)).filter f).length=((zO i).filter f).length+1:=(by rw [kI,if_pos m];simp);simp only [BZ,r0,seval];refine du Y (s.gr j) (Y.gr _ _ _ _ b j) (i:=((zO i).filter f).length) l ?_ ?_ ?_
       . intro p E a G _ _;simp only [BZ,r6,w,seval];exact t (i+1) _ _ (by omega) ⟨by omega,E,G,by rw [o];exact a,by simp [aD,r0,r1,an,r2,r5]⟩
       . intro p a _;simp only [BZ,seval];exact iE rfl ⟨rfl,.inr (.inl ⟨_,rfl,a⟩)⟩
       . intro v p a;exact absurd a (C v p)
     | false=>have o:(zO (i+1)).filter f=(zO i).filter f:=(by rw [kI,if_neg (by rw [m];decide)];simp);simp only [BZ,r6,w,seval];exact t (i+1) _ _ (by omega) ⟨by omega,F,s.gr j,by rw [o];exact Y.gr _ _ _ _ b j,by simp [aD,r0,r1,an,r2,r5]⟩
   . simp only [BZ,r5,r6,aG,hlt,seval];have:i=N:=(by omega);subst this;exact cE (cu ⟨rfl,_,rfl,rfl,.inl ⟨_,F,rfl,by simpa using b⟩⟩)
 . exact⟨Xd _,F,s,b,by simp [aD,c8,an]⟩
def eu(n:Nat)(f:Nat->Bool):List Value:=(zO n).map fun j=>.bool (f j)
theorem tW:(eu n f).length=n:=by simp [eu]
theorem bolC_at(h:j<n):(eu n f)[j]? =some (.bool (f j)):=lK (F:=fun j=>Value.bool (f j)) h
theorem Ch:(eu n f).set j (.bool true)=eu n (fun u=>decide (u=j)||f u):=by have:=kX (N:=n) (k:=j) (F:=fun j=>Value.bool (f j)) (F':=fun u=>Value.bool (decide (u=j)||f u)) (fun i _ a=>by simp [a]);unfold eu;rw [<-this];simp
theorem mV{g:Nat->Bool}(h: ∀j,j<n->f j=g j):eu n f=eu n g:=by unfold eu;refine List.map_congr_left fun j a=>?_;rw [h j (List.mem_range.1 a)]
theorem putB_ok(C:OZ h0)(R:Row h0 d (eu n f) 1){post:Array Value}(K:nG zM g [] post.toList h0 D (xs.map fun(v:Nat)=>[.int .i64 (v:Nat)]))(E: ¬D d)(A: ∀x∈xs,x<n)(hl:xs.length<=1000):
 Ret zM 266 [.slice (some ⟨d,0,none⟩) n n,.func (.func g) #[] post,.bool true] h0 fun r h'=>Mo (· =d) h0 h'/\r=.slice (some ⟨d,0,none⟩) n n/\Row h' d (eu n (fun u=>decide (u∈xs)||f u)) 1:=by
 have S:=St.init1 C (o:=.row (eu n f) 1) R;have zl:=R.lt C;refine aa (n:=15) (rs:=[.tmp 6]) rfl Tryz.e266 rfl rfl rfl (lbt rfl) ?_;simp only [BZ,seval];refine ae (bN (by exact aW)) S ?_;clear S;intro h m S G;simp only [BZ,if_false,seval];refine ae (bN (by exact og)) S ?_;clear S;intro h t S H;simp only [BZ,if_false,seval];have M:eu n f=eu n (fun u=>decide (u∈xs.take 0)||f u):=mV fun j _=>by simp
 refine iD S (g:=g) (a:=#[]) (b:=post) (by simp [bG,aD,an]) rfl rfl ?_;intro I z w p N O g2;obtain⟨X,J,p⟩: ∃X:gu,X=_/\St (· =d) h0 I [(w,.loop X),(z,.dfr),(t,.row [.bool true] 1),(m,.row [.slice (some ⟨d,0,none⟩) n n] 1),(d,.row (eu n f) 1)] []:=⟨_,rfl,p⟩;have P:Yld zM w (fun k h' F=>St (· =d) h0 h' [(w,.loop X),(z,.dfr),(t,.row [.bool true] 1),(m,.row [.slice (some ⟨d,0,none⟩) n n] 1),(d,.row (eu n (fun u=>decide (u∈xs.take k)||f u)) 1)] []/\k<=xs.length/\F=[w,z,t,m,d]) (fun _ _=>False) (xs.map fun(v:Nat)=>[.int .i64 (v:Nat)]):=by
  refine⟨?_,?_,fun _ _ h=>h.elim,?_⟩
  . rintro i h F ⟨S,_,rfl⟩;exact⟨S.ok,fun b l=>S.key_lt (by simpa [keys]using l)⟩
  . rintro i h F h' ⟨S,a,rfl⟩ Q;exact⟨S.call Q,a,rfl⟩
  . rintro i x hR F B ⟨S,a,rfl⟩;have q:i<xs.length:=(by have:=(List.getElem?_eq_some_iff.1 B).1;simpa using this);rw [Xm,Xc q]at B;cases B;have s:=A _ (Xh q);have V:eu n (fun u=>decide (u∈xs.take (i+1))||f u)=(eu n (fun u=>decide (u∈xs.take i)||f u)).set xs[i] (.bool true):=(by rw [Ch];refine mV fun j _=>?_;rw [Xe q];simp only [XC,XH];by_cases W:j=xs[i]<;>by_cases Y:j∈xs.take i<;>simp [W,Y]);rw [V];generalize xs[i]=x at s;subst J;refine iB (S.get m0) (by rw [Tryz.e266];rfl) rfl ?_;have Z:=S;replace S:=S.base;simp only [BZ,seval];refine ib S (i:=0) rfl rfl rfl rfl rfl ?_;clear S;intro h S;simp only [LC]at S;simp only [BZ,s,S.ld (b:=m) (o:=0) m3 rfl,S.ld (b:=t) (o:=0) m2 rfl,seval];refine aE (aF S (i:=4) rfl Tryz.t4.2.2.1 og (by rw [tW];exact s) ono) ?_;clear S;rintro h ⟨S,_⟩;simp only [LC]at S;simp only [BZ];refine d6 S (i:=0) rfl ?_;clear S;intro h S;simp only [LC]at S;refine .inl ⟨rfl,_,⟨Z.rebase S,by omega,rfl⟩,?_,fun c hc=>.inl hc⟩;have:=S.fr;simp only [keys,XA,XD,XI,XQ]at this;exact this
 refine cR (K w _ _ (fun _ _ h=>h) P I [w,z,t,m,d] ?_ ⟨by rw [<-M];exact p,Xd _,rfl⟩) fun o rc h' y=>jt y ?_
 . have kn:=S.fr.n;refine⟨p.ok,p.fr.n,fun b l hd=>p.fr.get b l (fun e=>E (e▸hd)),fun b l h=>?_,fun b l=>p.key_lt (by simpa [keys]using l)⟩;simp only [Xo,Xk,or_false]at l;rcases l with rfl|rfl|rfl|rfl|rfl
   . omega
   . omega
   . omega
   . omega
   . exact E h.2
 . rintro F ⟨T,_,rfl⟩;rw [Xp,Xn]at T;subst J;refine⟨_,T.get m0,XE,?_⟩;replace T:=T.dead;have S:=T;show Run _ _ _ _ _ _ _ _;simp only [BZ,S.ld (b:=m) (o:=0) m2 rfl,seval];refine dz (ir [z] _ (L:=[(t,_),(m,_),(d,_)]) T.base fun h4 S4=>?_);refine⟨rfl,(eo (by decide)).2 (cg.2 ?_)⟩;have U:=T.rebase S4;exact⟨U.fr,rfl,U.row m2⟩
theorem anyT_ok  (K:OZ h0)  (k:Good γ) {L t:Nat}   (z:aX h0 L (ptrTo t) γ) (F:b<γ.nodes) (A:az h0 1 bO y xs) (l:xs=[b]):
 Ret zM 242 [ptrTo t,y] h0 fun r h'=>Gr h0 h'/\ ∃d,r=.slice (some ⟨d,0,none⟩) γ.arcs.length γ.arcs.length/\Row h' d (eu γ.arcs.length (lV γ b)) 1/\h0.n<=d:=by
 have S:=Si K;have G:=k.many;have fL:=A.fl;have hl:xs.length=1:=by rw [l];rfl
 refine aa (n:=32) (rs:=[.tmp 4]) rfl Tryz.e242 rfl rfl rfl (lbt rfl) ?_;simp only [BZ,seval];refine am (kH S.ok z) ?_;intro h1 M;replace S:=S.call M;simp only [BZ,seval];have B:=S.gr;have m:=S.ok;clear S;have S:=Si m;rename Hp=>hA;refine ae (mD (by exact Tryz.t100.1) (by exact Tryz.e4E) (by omega) (by omega)) S ?_;clear S;intro h d S p;have N:bJ [Value.bool false] γ.arcs.length=eu γ.arcs.length (fun a=>decide (0=1)&&lV γ b a):=by rw [oW];unfold eu;simp [List.map_const']
 rw [Xy,N]at S;simp only [BZ,Xy,A.lenq,seval];refine bj (fun(i:Nat) f h=>i<=1/\St NoM hA h [(d,.row (eu γ.arcs.length (fun a=>decide (i=1)&&lV γ b a)) 1)] []/\f 0=ptrTo t/\f 5=.slice (some ⟨d,0,none⟩) γ.arcs.length γ.arcs.length/\f 13=y/\f 14=.int .i64 (xs.length:Nat)/\f 15=.int .i64 i) (fun i=>1-i) ?_ 0 _ _ ?_
 . clear S;intro i O f h ⟨hi,S,r0,r5,r13,r14,r15⟩;have w:au .i64 ((i:Int)+1)=((i+1:Nat):Int):=(by rw [wrap64]<;>omega);have C:=B.trans S.gr;by_cases hlt:i<xs.length
   . have H:i=0:=(by omega);obtain⟨c,o,P,q⟩:=(A.gr C).ix (kd:=.i64) dr hlt;have Q:xs[i]=b:=(by subst l;subst H;rfl);rw [Q]at q;replace q:h.load c o 1=some [.int .i64 (b:Nat)]:=q;simp only [BZ,r0,r13,r14,r15,aG,hlt,P,q,seval];refine am (D6 S.ok (z.gr C) F) ?_;intro h2 R;replace S:=S.call R;have hS:=S.gr;have D:=(S.row (b:=d) m0).lt S.ok;simp only [BZ,r0,r5,seval];refine step_ret (tells_ok m S.ok S.gr (x:=d) p D k (z.gr B) F) ?_;rintro v h3 ⟨I,T,U,rfl,n2,n5,hf⟩;replace S:=S.call I;have E:=S.ok;simp only [BZ,seval];refine step_ret (marked_ok S.ok (n:=γ.arcs.length) eh) ?_;rintro v h4 ⟨s,V,W,rfl,n1,n3,X,Y⟩;have Z:=marked_it E s.ok s.keep s.n (x:=d) (by omega) (g:=279) (post:=#[ptrTo T,ptrTo U]) hf X Y;have kg:=I.n;replace S:=S.call s;simp only [BZ,seval];refine step_ret (putB_ok S.ok (S.row (b:=d) m0) (g:=278) (post:=#[ptrTo V,ptrTo W]) Z (fun h=>?_) (fun x hx=>List.mem_range.1 (List.mem_filter.1 hx).1) (Xl sH (by omega))) ?_
     . rcases h with h|h|h
       . omega
       . omega
       . exact h.2 rfl
     . rintro v h5 ⟨f5,rfl,R5⟩;have J:=S.call1 (i:=0) (o':=.row _ 1) rfl f5 R5;simp only [XJ]at J;simp only [BZ,r15,w,seval];refine O (i+1) _ _ (by omega) ⟨by omega,?_,by simp [aD,r0,an,r13,r14]⟩;have e:eu γ.arcs.length (fun a=>decide (i+1=1)&&lV γ b a)=eu γ.arcs.length (fun u=>decide (u∈(zO γ.arcs.length).filter (lV γ b))||(decide (i=1)&&lV γ b u)):=mV fun j hj=>(by subst H;simp [List.mem_filter,hj]);rw [e];exact J
   . have i1:i=1:=(by omega);simp only [BZ,ab,r5,r14,r15,aG,hlt,seval];refine⟨C,d,rfl,?_,by have:=B.n;omega⟩;have e:eu γ.arcs.length (lV γ b)=eu γ.arcs.length (fun a=>decide (i=1)&&lV γ b a):=mV fun j _=>(by rw [decide_eq_true i1,Bool.true_and]);rw [e];exact S.row m0
 . exact⟨Xd _,S,by simp [aD,c8,an]⟩
theorem arcsT_ok(g:OZ h0)(c:Good γ){e:Nat}(j:aX h0 i (ptrTo e) γ)(k:b<γ.nodes):
 Ret zM 186 [ptrTo e,.int .i64 (b:Nat)] h0 fun r h'=>Gr h0 h'/\ ∃a,r=.slice (some ⟨a,0,none⟩) γ.arcs.length γ.arcs.length/\Row h' a (eu γ.arcs.length (lV γ b)) 1/\h0.n<=a:=by
 have S:=Si g;refine aa (n:=9) (rs:=[.tmp 4]) rfl Tryz.e186 rfl rfl rfl (lbt rfl) ?_;simp only [BZ,seval];refine ae (ce (by exact Tryz.t41.1) (by exact Tryz.e3E) (by decide) (by rfl)) S ?_;clear S;intro h d S f;simp only [LC,bJ,cq,ag,XF,Xw,Xt,XG,seval]at S;simp only [BZ,seval];have l:az h 1 bO (.slice (some ⟨d,0,none⟩) 1 1) [b]:=.inr ⟨d,0,none,1,rfl,Xz _,S.lds (b:=d) (o:=0) (n:=1*1) m0 (lbt rfl)⟩;have p:=S.fr.n;refine step_ret (anyT_ok S.ok c (j.gr S.gr) k l rfl) ?_;rintro r q ⟨m,a,rfl,R,s⟩;replace S:=S.call m;simp only [BZ,ab,seval];exact⟨S.gr,a,rfl,R,by omega⟩
def Own(B:Nat->Prop)(hB h:Hp)(F:List Nat):Prop:=hB.n<=h.n/\ ∀b,B b->b<hB.n/\b∉F/\h.get b=hB.get b
theorem Own.gr{B:Nat->Prop}(o:Own B hB h F)(g:Gr h h'):Own B hB h' F:=
 ⟨Xl o.1 g.n,fun b a=>⟨(o.2 b a).1,(o.2 b a).2.1,(g.get b (Xa (o.2 b a).1 o.1)).trans (o.2 b a).2.2⟩⟩
theorem Own.mo{B:Nat->Prop}{F':List Nat}(o:Own B hB h F)(m:Mo (· ∈F) h h')(d: ∀b∈F',b∈F\/h.n<=b):Own B hB h' F':=
 ⟨Xl o.1 m.n,fun b e=>by
  obtain⟨a,c,f⟩:=o.2 b e;have hlt:=Xa a o.1;exact⟨a,fun g=>(d b g).elim c (fun h=>by omega),(m.get b hlt c).trans f⟩⟩
section
variable{γ:Gra}{nb mb bp k:Nat}{p:Value}{m:List Int}{c:Nat->Nat}
theorem won_ok(r:OZ h0){I:Nat}{J:Nat->Hp->List Nat->Prop}{Z:Out->Hp->Prop}{xs:List (List Value)}(t:Good γ)(M: ∀v h,¬Z (.pan v) h)(Y:Yld zM I J Z xs){B:Nat->Prop}{u:Nat}(x:B b)(N:hB.load b 0 1=some [.func (.yield I) #[] #[]])(O:D u)(e3:h0.load u 0 1=some [ptrTo bp])(e: ∀h F,ItS h0 D h F->aX h nb (ptrTo bp) γ)
  {post:Array Value}  (y: ∀h F,ItS h0 D h F->Own B hB h F-> ∀a,a<γ.arcs.length->aT zM g ([.int .i64 (a:Nat)]++post.toList) h (.bool (f a)))  (P: ∀a,a<γ.arcs.length->f a=true->xs[j+((zO a).filter f).length]? =some [.int .i64 (a:Nat)])   (s:ItS h0 D h F) (o:Own B hB h F) (l:J j h F):
 Ret zM 182 [.func (.func g) #[] post,ptrTo u,ptrTo b] h fun v h'=>(v=.bool true/\ ∃F',ItS h0 D h' F'/\Own B hB h' F'/\J (j+((zO γ.arcs.length).filter f).length) h' F')\/(v=.bool false/\Z (.ret (.bool false)) h'):=by
 have K:=t.many;have Q:=s.load r e3 O;refine aa (n:=21) (rs:=[.tmp 4]) rfl Tryz.e182 rfl rfl rfl (lbt rfl) ?_;simp only [BZ,Q,seval];refine am (kH s.ok (e _ _ s)) ?_;intro T z;simp only [BZ];refine bj (fun(i:Nat) q h=>i<=γ.arcs.length/\ ∃F,ItS h0 D h F/\Own B hB h F/\J (j+((zO i).filter f).length) h F/\q 0=.func (.func g) #[] post/\q 2=ptrTo b/\q 7=.int .i64 (γ.arcs.length:Nat)/\q 8=.int .i64 i) (fun i=>γ.arcs.length-i) ?_ 0 _ _ ?_
 . intro i L q h ⟨hi,F,s,o,l,r0,r2,r7,r8⟩;have w:au .i64 ((i:Int)+1)=((i+1:Nat):Int):=(by rw [wrap64]<;>omega);by_cases hlt:i<γ.arcs.length
   . simp only [BZ,r0,r7,r8,aG,hlt,seval];refine am (y _ _ s o i hlt) ?_;intro U d;have A:=nR N ((o.gr d).2 b x).2.2;cases C:f i with
     | true=>
       have E:((zO (i+1)).filter f).length=((zO i).filter f).length+1:=(by rw [kI,if_pos C];simp);simp only [BZ,r2,A,seval];refine du Y (s.gr d) (Y.gr _ _ _ _ l d) (i:=j+((zO i).filter f).length) (P i hlt C) ?_ ?_ ?_
       . intro G R a S m3 H;simp only [BZ,r8,w,seval];exact L (i+1) _ _ (by omega) ⟨by omega,R,S,(o.gr d).mo m3 H,by rw [E];exact a,by simp [aD,r0,r2,an,r7]⟩
       . intro G a _;simp only [BZ,ab,seval];exact .inr a
       . intro v G a;exact absurd a (M v G)
     | false=>have E:(zO (i+1)).filter f=(zO i).filter f:=(by rw [kI,if_neg (by rw [C];decide)];simp);simp only [BZ,r8,w,seval];exact L (i+1) _ _ (by omega) ⟨by omega,F,s.gr d,o.gr d,by rw [E];exact Y.gr _ _ _ _ l d,by simp [aD,r0,r2,an,r7]⟩
   . have:i=γ.arcs.length:=(by omega);subst this;simp only [BZ,ab,r7,r8,aG,hlt,seval];exact .inl ⟨F,s,o,l⟩
 . exact⟨Xd _,F,s.gr z,o.gr z,Y.gr _ _ _ _ l z,by simp [aD,c8,an]⟩
theorem worth_ok(f:OZ h0)(g:Fl p):Ret zM 98 [ptrTo bp,p,.int .i64 (k:Nat)] h0 fun v h'=>Gr h0 h'/\ ∃a b4 b5,v=.func (.func 181) #[] #[ptrTo a,ptrTo b4,ptrTo b5]/\h0.n<=a/\h0.n<=b4/\h0.n<=b5/\h'.load a 0 1=some [ptrTo bp]/\h'.load b4 0 1=some [p]/\h'.load b5 0 1=some [.int .i64 (k:Nat)]:=by have S:=Si f;refine aa (n:=8) (rs:=[.tmp 6]) rfl Tryz.e98 rfl rfl rfl (lbt rfl) ?_;simp only [BZ,seval];refine ae (bN (by exact bH)) S ?_;clear S;intro h a S b;simp only [BZ,if_false,seval];refine ae (bN (by assumption)) S ?_;clear S;intro h b4 S d;simp only [BZ,if_false,seval];refine ae (bN (by exact aU)) S ?_;clear S;intro h b5 S e;simp only [BZ,ab,seval];exact⟨S.gr,a,b4,b5,rfl,b,d,e,S.ld m2 rfl,S.ld m1 rfl,S.ld m0 rfl⟩
def insB(γ:Gra)(c:Nat->Nat)(k a:Nat):Bool:=decide (c (γ.arcs.getD a default).s=k/\c (γ.arcs.getD a default).t=k)
theorem worth2_ok(e:OZ h)(b:Good γ)(f:aX h nb (ptrTo bp) γ)(x:gJ h mb p γ.nodes m c)(g:h.load d 0 1=some [ptrTo bp])(i:h.load b4 0 1=some [p])(j:h.load b5 0 1=some [.int .i64 (k:Nat)])(l:a<γ.arcs.length):
 aT zM 183 ([.int .i64 (a:Nat)]++[ptrTo d,ptrTo b4,ptrTo b5]) h (.bool (insB γ c k a)):=by
 refine aa (n:=11) (rs:=[.tmp 5]) rfl Tryz.e183 rfl rfl rfl (lbt rfl) ?_;simp only [BZ,g,i,j,seval];refine am (inside_ok (N:=0) e b f x l) ?_;intro q o;simp only [BZ,ab,seval];exact⟨rfl,o⟩
theorem worth3_ok(g:OZ h)(i:h.load b 0 1=some [.slice (some ⟨d,0,none⟩) n n])(R:Row h d (eu n f) 1)(e:a<n):
 aT zM 187 ([.int .i64 (a:Nat)]++[ptrTo b]) h (.bool (f a)):=by
 have S:=Si g;have j:=R.load1 (bolC_at (f:=f) e);have l:(a:Int)<(n:Int):=by omega
 refine aa (n:=14) (rs:=[.tmp 3]) rfl Tryz.e187 rfl rfl rfl (lbt rfl) ?_;simp only [BZ,ab,i,l,e,j,seval];exact S.gr
theorem flat_at{a b:Type}{f:a->List b}{l:List a}{q:Nat}{x:b}(d:j<l.length)(h:(f l[j])[q]? =some x):(l.flatMap f)[((l.take j).flatMap f).length+q]? =some x:=by
 have e:l=l.take j++l[j]::l.drop (j+1):=by rw [<-XL d,List.take_append_drop]
 conv=>lhs;rw [e]
 rw [XS,List.flatMap_cons,Xs (by simp)];have g:=(List.getElem?_eq_some_iff.1 h).1;have i:(Xi j l++l[j]::Xj (j+1) l).take j=l.take j:=by rw [<-e]
 rw [i,XN,Xu g];exact h
noncomputable def ru(γ:Gra)(b:Nat):List Nat:=(zO γ.arcs.length).filter (lV γ b)
noncomputable def gb(γ:Gra)(c:Nat->Nat)(k:Nat):List Nat:=(zO γ.arcs.length).filter (insB γ c k)++((zO γ.nodes).filter (borB γ c k)).flatMap (ru γ)
theorem worth1_it  (K:OZ hq) (t:OZ h0) (kq:fU hq h0) (nq:hq.n<=h0.n) (y:Good γ) (hn:aX hq nb (ptrTo bp) γ) (x:gJ hq mb p γ.nodes m c)  (e3:h0.load z 0 1=some [ptrTo bp]) (e4:h0.load b4 0 1=some [p]) (e5:h0.load b5 0 1=some [.int .i64 (k:Nat)]):
 nG zM 181 [] [ptrTo z,ptrTo b4,ptrTo b5] h0 (fun c=>c=z\/c=b4\/c=b5\/c<hq.n) ((gb γ c k).map fun(a:Nat)=>[.int .i64 (a:Nat)]):=by
 intro lb J Z hz Y h F s M;have n2:=y.n2;have fp:Fl p:=by obtain⟨b,_,rfl,_⟩:=x.at0;exact bH
 have kN: ∀h F,ItS h0 (fun c=>c=z\/c=b4\/c=b5\/c<hq.n) h F->fU hq h:=fun h F s=>s.keep kq nq (fun c V=>.inr (.inr (.inr V)));have u: ∀h F,ItS h0 (fun c=>c=z\/c=b4\/c=b5\/c<hq.n) h F->aX h nb (ptrTo bp) γ:=fun h F s=>hn.keep K (kN h F s);have C: ∀h F,ItS h0 (fun c=>c=z\/c=b4\/c=b5\/c<hq.n) h F->gJ h mb p γ.nodes m c:=fun h F s=>x.keep K (kN h F s);have W: ∀a,a<γ.arcs.length->insB γ c k a=true->((gb γ c k).map fun(a:Nat)=>[Value.int .i64 (a:Nat)])[0+((zO a).filter (insB γ c k)).length]? =some [.int .i64 (a:Nat)]:=fun a E q=>by have P:=uO q _ E;unfold gb;rw [Xw,Xm,Xu (List.getElem?_eq_some_iff.1 P).1,P];rfl
 have S:=Si s.ok;refine enter (n:=31) (rs:=[]) rfl Tryz.e181 rfl rfl rfl (lbt rfl) ?_;simp only [BZ,seval];refine ae (bN (by exact eh)) S ?_;clear S;intro h l S X;have s1:=s.gr S.gr;have j1:=Y.gr _ _ _ _ M S.gr;have zy:=(S.row (b:=l) m0).lt S.ok;have ly:=S.ld (b:=l) (o:=0) m0 rfl;have o1:Own (· =l) _ _ F:=⟨Xz _,fun b q=>⟨by subst q;exact zy,fun D=>by subst q;have:=s.lt _ D;omega,rfl⟩⟩;simp only [BZ,seval];refine step_ret (won_ok t y hz Y (B:=(· =l)) rfl ly (.inl rfl) e3 u (g:=183) (post:=#[ptrTo z,ptrTo b4,ptrTo b5]) (f:=insB γ c k) (fun h F s _ a E=>worth2_ok s.ok y (u _ _ s) (C _ _ s) (s.load t e3 (.inl rfl)) (s.load t e4 (.inr (.inl rfl))) (s.load t e5 (.inr (.inr (.inl rfl)))) E) W s1 o1 j1) ?_;rintro v h2 (⟨rfl,F2,A,o2,j2⟩|⟨rfl,z2⟩)
 . simp only [BZ,A.load t e3 (.inl rfl),A.load t e4 (.inr (.inl rfl)),A.load t e5 (.inr (.inr (.inl rfl))),seval];refine step_ret (border_ok A.ok y (u _ _ A) (C _ _ A) (k:=k)) ?_;rintro H hB ⟨gB,Q,nB⟩;have sA:=A.gr gB;have jA:=Y.gr _ _ _ _ j2 gB;have R:=o2.gr gB;have lB:hB.load l 0 1=some [.func (.yield lb) #[] #[]]:=nR ly (R.2 l rfl).2.2;have ac:l<hB.n:=Xa zy R.1;have oB:Own (fun c=>c=l\/av H c) hB hB F2:=⟨Xz _,fun b q=>⟨q.elim (fun e=>by subst e;exact ac) (fun h=>Q.lt sA.ok h),fun D=>q.elim (fun e=>(R.2 b e).2.1 D) (fun h=>by have:=nB b h;have:=A.lt b D;omega),rfl⟩⟩;generalize T:(zO γ.nodes).filter (borB γ c k)=L at Q;have ad: ∀b∈L,b<γ.nodes:=fun b q=>(by rw [<-T]at q;exact List.mem_range.1 (List.mem_filter.1 q).1);have ai:L.length<=γ.nodes:=(by rw [<-T];exact sH);simp only [BZ,Q.lenq,seval];refine bj (fun(j:Nat) I h=>j<=L.length/\ ∃F,ItS h0 (fun c=>c=z\/c=b4\/c=b5\/c<hq.n) h F/\Own (fun c=>c=l\/av H c) hB h F/\J (((zO γ.arcs.length).filter (insB γ c k)).length+((L.take j).flatMap (ru γ)).length) h F/\I 1=ptrTo z/\I 5=.func (.func 182) #[] #[ptrTo z,ptrTo l]/\I 17=H/\I 18=.int .i64 (L.length:Nat)/\I 19=.int .i64 j) (fun j=>L.length-j) ?_ 0 _ _ ?_
   . clear S s1 j1 o1 A j2 o2 sA jA R oB;intro j ih I h ⟨hj',F,s,o,M,r1,r5,r17,r18,r19⟩;have w:au .i64 ((j:Int)+1)=((j+1:Nat):Int):=(by rw [wrap64]<;>omega);by_cases hlt:j<L.length
     . have q:=ad _ (Xh hlt);have sl:az h 1 bO H L:=sl_get Q (fun c V=>(o.2 c (.inr V)).2.2);obtain⟨d,oo,x0,U⟩:=sl.ix (kd:=.i64) dr hlt;have N: ∀a,a<γ.arcs.length->lV γ L[j] a=true->((gb γ c k).map fun(a:Nat)=>[Value.int .i64 (a:Nat)])[((zO γ.arcs.length).filter (insB γ c k)).length+((L.take j).flatMap (ru γ)).length+((zO a).filter (lV γ L[j])).length]? =some [.int .i64 (a:Nat)]:=fun a E q=>(by have P:(ru γ L[j])[((zO a).filter (lV γ L[j])).length]? =some a:=uO q _ E;unfold gb;rw [T,Xm,Nat.add_assoc,Xs (by omega),XN,flat_at hlt P];rfl);have tk:((L.take (j+1)).flatMap (ru γ)).length=((L.take j).flatMap (ru γ)).length+((zO γ.arcs.length).filter (lV γ L[j])).length:=(by rw [Xe hlt,XS,List.length_append];simp [ru]);generalize L[j]=b at q U N tk;replace U:h.load d oo 1=some [.int .i64 (b:Nat)]:=U;simp only [BZ,r1,r17,r18,r19,aG,hlt,x0,U,s.load t e3 (.inl rfl),seval];refine step_ret (arcsT_ok s.ok y (u _ _ s) q) ?_;rintro r h4 ⟨g4,bl,rfl,R4,nl⟩;have S:=Si g4.ok;simp only [BZ];refine ae aA S ?_;clear S;intro h O S af;simp only [BZ,seval];refine aE (aF S (i:=0) rfl Tryz.t100.2.2.1 aW (Xf (lbt rfl)) ono) ?_;clear S;rintro h5 ⟨S,_⟩;simp only [LC]at S;have g5:=g4.trans S.gr;have s5:=s.gr g5;have j5:=Y.gr _ _ _ _ M g5;have G:=o.gr g5;have R8:=S.row (b:=O) m0;have Rl:=R4.gr S.gr;have k4:=g4.n;have oC:Own (fun c=>(c=l\/av H c)\/c=O\/c=bl) h5 h5 F:=⟨Xz _,fun b q=>by
        rcases q with q|rfl|rfl
        . exact⟨Xa (G.2 b q).1 G.1,(G.2 b q).2.1,rfl⟩
        . exact⟨R8.lt S.ok,fun D=>by have:=s.lt _ D;omega,rfl⟩
        . exact⟨Rl.lt S.ok,fun D=>by have:=s.lt _ D;omega,rfl⟩⟩
       have l5:h5.load l 0 1=some [.func (.yield lb) #[] #[]]:=nR lB (G.2 l (.inl rfl)).2.2;simp only [BZ,r5,seval];refine step_ret (won_ok t y hz Y (B:=fun c=>(c=l\/av H c)\/c=O\/c=bl) (.inl (.inl rfl)) l5 (.inl rfl) e3 u (g:=187) (post:=#[ptrTo O]) (f:=lV γ b) (fun h F s o a E=>worth3_ok s.ok (nR (R8.load1 (o:=0) rfl) (o.2 O (.inr (.inl rfl))).2.2) (Row.of_get (o.2 bl (.inr (.inr rfl))).2.2 Rl) E) N s5 oC j5) ?_;rintro v h6 (⟨rfl,F6,s6,o6,j6⟩|⟨rfl,z6⟩)
       . simp only [BZ,r19,w,seval];refine ih (j+1) _ _ (by omega) ⟨by omega,F6,s6,⟨Xl G.1 o6.1,fun b q=>⟨(G.2 b q).1,(o6.2 b (.inl q)).2.1,(o6.2 b (.inl q)).2.2.trans (G.2 b q).2.2⟩⟩,by rw [tk,<-Nat.add_assoc];exact j6,by simp [aD,r1,an,r5,r17,r18]⟩
       . simp only [BZ,seval];exact iE rfl ⟨rfl,.inr (.inl ⟨_,rfl,z6⟩)⟩
     . have:j=L.length:=(by omega);subst this;simp only [BZ,r18,r19,aG,hlt,seval];refine cE (cu ⟨rfl,_,rfl,rfl,.inl ⟨_,F,rfl,?_⟩⟩);rw [Xn]at M;rw [Xp];unfold gb;rw [List.length_append,T];exact M
   . exact⟨Xd _,F2,sA,oB,by simpa using jA,by simp [aD,c8,an]⟩
 . simp only [BZ,seval];exact iE rfl ⟨rfl,.inr (.inl ⟨_,rfl,z2⟩)⟩
end
def OkB(γ:Gra)(c:Nat->Nat)(b k i:Nat)(B:Nat->Nat):Prop:= ∀d a,a/8<b->(gQ B b d a=true↔(d<k/\a∈gb γ c d)\/(d=k/\a∈(gb γ c k).take i))
theorem OkB.zero:OkB γ c b 0 0 (fun _=>0):=fun d a _=>by simp [gQ]
theorem OkB.next(o:OkB γ c b k (gb γ c k).length B):OkB γ c b (k+1) 0 B:=fun f a g=>by
 rw [o f a g,Xn];simp only [XR,Xk,and_false,or_false];constructor
 . rintro(⟨h,d⟩|⟨rfl,d⟩)
   . exact⟨by omega,d⟩
   . exact⟨by omega,d⟩
 . rintro⟨h,d⟩;by_cases e:f=k
   . subst e;exact .inr ⟨rfl,d⟩
   . exact .inl ⟨by omega,d⟩
theorem OkB.set(m:b=(γ.arcs.length+7)/8)(o:OkB γ c b k i B)(j:i<(gb γ c k).length)(hlt:(gb γ c k)[i]<γ.arcs.length):OkB γ c b k (i+1) (dZ B (k*b+(gb γ c k)[i]/8) (setB (B (k*b+(gb γ c k)[i]/8)) ((gb γ c k)[i]%8))):=fun g a l=>by
 rw [Ci (by omega) (by omega),Xe j];by_cases e:g=k/\a=(gb γ c k)[i]
 . rw [if_pos e];obtain⟨rfl,e⟩:=e;subst e;exact⟨fun _=>.inr ⟨rfl,List.mem_append.2 (.inr (List.mem_singleton.2 rfl))⟩,fun _=>rfl⟩
 . rw [if_neg e,o g a l];simp only [XC,XH];constructor
   . rintro(h|⟨f,d⟩)
     . exact .inl h
     . exact .inr ⟨f,.inl d⟩
   . rintro(h|⟨f,d|d⟩)
     . exact .inl h
     . exact .inr ⟨f,d⟩
     . exact absurd ⟨f,d⟩ e
theorem zU(h:a∈gb γ c k):a<γ.arcs.length:=by
 unfold gb at h;rcases List.mem_append.1 h with h|h
 . exact List.mem_range.1 (List.mem_filter.1 h).1
 . obtain⟨b,_,h⟩:=List.mem_flatMap.1 h;exact List.mem_range.1 (List.mem_filter.1 h).1
theorem perm_db{c:Type}{x a b d:c}{l:List c}:List.Perm (x::([a,b]++(d::l))) ([d,x,a,b]++l):=by show List.Perm ([x,a,b]++d::l) (d::([x,a,b]++l));exact List.perm_middle
theorem AL{L:List (Nat×Ob)}{a:List Nat}:keys (L++dP a) []=L.map Prod.fst++a:=by simp [keys,dP,XK]
theorem ofB_ok  (ok:OZ h0)  {mb bp cb:Nat} {m:List Int}  {M:Nat} (C:Good γ) (hn:aX h0 nb (ptrTo bp) γ) (x:gJ h0 mb (ptrTo cb) γ.nodes m c) (hM:gP m+1=(M:Int)) (P:M<=100):
 Ret zM 38 [ptrTo bp,ptrTo cb] h0 fun r h'=>Gr h0 h'/\ ∃s f B,r=ptrTo s/\h0.n<=s/\h0.n<=f/\s≠f/\fG h' s f M γ.arcs.length ((γ.arcs.length+7)/8) B/\OkB γ c ((γ.arcs.length+7)/8) M 0 B:=by
 have S:=Si ok;have n1:=C.n1;have n2:=C.n2;have ad:=C.many;have xl:=x.len;have co: ∀{h},Gr h0 h->mQ h (ptrTo cb) m (M:Int):=fun g=>.inr ⟨⟨_,(x.gr g).at0⟩,by rw [hM]⟩;refine aa (n:=33) (rs:=[.tmp 4]) rfl Tryz.e38 rfl rfl rfl (lbt rfl) ?_;simp only [BZ,seval];refine am (BO S.ok hn (co S.gr) n1 (by omega)) ?_;intro h1 g1;replace S:=S.call g1;simp only [BZ,xl,seval];refine am (zn S.ok (co S.gr)) ?_;intro N Q;replace S:=S.call Q;simp only [BZ,seval];refine am (kH S.ok (hn.gr S.gr)) ?_;intro h3 g3;replace S:=S.call g3;simp only [BZ,seval];refine step_ret (bmNew_ok S.ok P (by omega)) ?_;rintro r u ⟨R,s,f,rfl,nf,ak,E,U⟩;have k3:=S.gr.n;have al:=S.ok;have gq:=S.gr.trans R;have kN:=R.n;have gS:=S.gr;clear S;have S:St (· =f) u u [(f,.row _ 1)] []:=St.init1 R.ok (o:=.row _ 1) U.b;have zf:=U.b.lt R.ok;have zp:=U.r.lt R.ok;simp only [BZ];refine ae aA S ?_;clear S;intro h t S af;simp only [BZ,seval];refine aE (aF S (i:=0) rfl ?_ ?_ ?_ ono) ?_
 . exact(by simp only [FA0])
 . exact(by exact bH)
 . exact Xf (lbt rfl)
 clear S;rintro h ⟨S,mo⟩;clear mo;simp only [LC,ag,lay,Xi,Xj,seval]at S;simp only [BZ,seval];have gO: ∀{h:Hp} {L:List (Nat×Ob)} {G:List GL},St (· =f) u h L G->Gr h0 h:=fun S=>(gq.fr.trans S.fr (fun b e=>.inr (by subst e;omega)):Mo NoM _ _).gr;have kO: ∀{h:Hp} {L:List (Nat×Ob)} {G:List GL},St (· =f) u h L G->fG u s f M γ.arcs.length ((γ.arcs.length+7)/8) (fun _=>0)->Row h s [.int .i64 M,.int .i64 γ.arcs.length,.int .i64 ((γ.arcs.length+7)/8:Nat),.slice (some ⟨f,0,none⟩) (M*((γ.arcs.length+7)/8)) (M*((γ.arcs.length+7)/8))] 1:=fun S b=>Row.of_get (S.fr.get s zp E) b.r;have hr:=fun {h:Hp} {L:List (Nat×Ob)} {G:List GL} (S:St (· =f) u h L G)=>kO S U;refine am (zn S.ok (co (gO S))) ?_;intro h4 g4;replace S:=S.call g4;simp only [BZ];generalize z:(γ.arcs.length+7)/8=l at*
 refine rV (fun(k:Nat) O d h=>k<=M/\ ∃p B,d=p.map rX/\St (· =f) u h ([(t,.row [ptrTo s] 1),(f,.row (i6 (M*l) B) 1)]++dP p) []/\(∀j,B j<256)/\OkB γ c l k 0 B/\O 0=ptrTo bp/\O 1=ptrTo cb/\O 5=ptrTo t/\O 18=.int .i64 (M:Nat)/\O 19=.int .i64 k) (fun k=>M-k) ?_ 0 _ _ _ ?_
 . clear S g4;rintro k ih O d h ⟨hk,p,B,rfl,S,hB,oB,r0,r1,r5,r18,r19⟩;have w:au .i64 ((k:Int)+1)=((k+1:Nat):Int):=(by rw [wrap64]<;>omega);by_cases hlt:k<M
   . simp only [BZ,r18,r19,aG,hlt,seval];refine ae aA S ?_;clear S;intro h A S ai;simp only [BZ,seval];refine aE (aF S (i:=0) rfl ?_ ?_ ?_ ono) ?_
     . exact(by simp only [FA0])
     . exact(by exact aU)
     . exact Xf (lbt rfl)
     clear S;rintro h ⟨S,mo⟩;clear mo;simp only [LC,ag,lay,Xi,Xj,seval]at S;simp only [BZ,r0,r1,S.ld (b:=A) (o:=0) m0 rfl,seval];refine step_ret (worth_ok S.ok (k:=k) bH) ?_;rintro v hW ⟨gW,w3,w4,w5,rfl,n3,n4,n5,e3,e4,e5⟩;have kk: ∀b∈[A,t,f]++p,h0.n<=b/\b<w3/\b<w4/\b<w5/\b<hW.n:=fun b q=>(by have hm:b∈keys ([(A,Ob.row [.int .i64 (k:Nat)] 1),(t,.row [ptrTo s] 1),(f,.row (i6 (M*l) B) 1)]++dP p) []:=(by rw [AL];exact q);have h1:=S.key_lt hm;have N:=S.key_own hm;have h3:=gW.n;have h4:h0.n<=b:=N.elim (fun h=>by omega) (fun h=>by subst h;omega);omega);replace S:=S.call gW;have ax:=gW.n;have V:=gO S;have zN:=S.fr.n;have it:=worth1_it ok S.ok V.keep V.n C hn x e3 e4 e5;simp only [BZ];refine iD S (g:=181) (a:=#[]) (b:=#[ptrTo w3,ptrTo w4,ptrTo w5]) (by simp [bG,aD,an]) rfl rfl ?_;intro N D H W ay aL Q;obtain⟨X,hX,W⟩: ∃X:gu,X=_/\St (· =f) u N ([(H,.loop X),(D,.dfr),(A,.row [.int .i64 (k:Nat)] 1),(t,.row [ptrTo s] 1),(f,.row (i6 (M*l) B) 1)]++dP p) []:=⟨_,rfl,W⟩;have hJ:Yld zM H (fun i h' F=> ∃B,St (· =f) u h' ([(H,.loop X),(D,.dfr),(A,.row [.int .i64 (k:Nat)] 1),(t,.row [ptrTo s] 1),(f,.row (i6 (M*l) B) 1)]++dP p) []/\(∀j,B j<256)/\OkB γ c l k i B/\F=[H,D,A,t,f]++p) (fun _ _=>False) ((gb γ c k).map fun(a:Nat)=>[.int .i64 (a:Nat)]):=by
      refine⟨?_,?_,fun _ _ h=>h.elim,?_⟩
      . rintro i h F ⟨B,S,_,_,rfl⟩;exact⟨S.ok,fun b q=>S.key_lt (by rw [AL];exact q)⟩
      . rintro i h F h' ⟨B,S,a,b,rfl⟩ gg;exact⟨B,S.call gg,a,b,rfl⟩
      . rintro i x hR F I ⟨B,S,hB,oB,rfl⟩;have J:i<(gb γ c k).length:=(by have:=(List.getElem?_eq_some_iff.1 I).1;simpa using this);rw [Xm,Xc J]at I;cases I;have K:(gb γ c k)[i]<γ.arcs.length:=zU (Xh J);have Y:=oB.set z.symm J K;generalize(gb γ c k)[i]=a at K Y;subst hX;refine iB (S.get m0) (by rw [Tryz.e38];rfl) rfl ?_;have S0:=S;replace S:=S.base;simp only [BZ,seval];refine ib S (i:=0) rfl rfl rfl rfl rfl ?_;clear S;intro h S;simp only [LC]at S;simp only [BZ,r5,S.ld (b:=A) (o:=0) m2 rfl,S.ld (b:=t) (o:=0) m3 rfl,seval];have BA:fG h s f M γ.arcs.length l B:=⟨hr (S0.rebase S),S.row (b:=f) m4,hB⟩;refine step_ret (bSet_ok S.ok BA E hlt K P (by omega) z.symm) ?_;rintro v h5 ⟨f5,rfl,B5⟩;have S5:=S.call1 (i:=4) (o':=.row _ 1) rfl f5 B5.b;simp only [XJ,List.set_cons_succ]at S5;clear S;simp only [BZ];refine d6 S5 (i:=0) rfl ?_;clear S5;intro h S;simp only [LC]at S;refine .inl ⟨rfl,_,⟨_,S0.rebase S,B5.lt,Y,rfl⟩,?_,fun c hc=>.inl hc⟩;exact S.fr.mono fun b q=>by simpa [keys,dP,XK]using q
     refine cR (it H _ _ (fun _ _ h=>h) hJ N ([H,D,A,t,f]++p) ?_ ⟨B,W,hB,oB,rfl⟩) fun o rc h' y=>jt y ?_
     . have kn:=Q.n;refine⟨W.ok,Q.n,fun b q hd=>Q.get b q,fun b q h=>?_,fun b q=>W.key_lt (by simpa [keys,dP,XK]using q)⟩;simp only [XC,Xo,Xk,or_false]at q;obtain⟨h1,N⟩:=h;have I:b=H\/b=D\/b∈[A,t,f]++p:=by
        rcases q with(q|q|q)|q
        . exact .inl q
        . exact .inr (.inl q)
        . exact .inr (.inr (List.mem_append.2 (.inl (by simpa using q))))
        . exact .inr (.inr (List.mem_append.2 (.inr q)))
       rcases I with rfl|rfl|I
       . omega
       . omega
       . have:=kk b I;omega
     . rintro F ⟨B1,T,ac,Z,rfl⟩;rw [Xp]at Z;subst hX;refine⟨_,T.get m0,XE,?_⟩;replace T:=T.dead;show Run _ _ _ _ _ _ _ _;have T1:St (· =f) u _ ([(D,.dfr),(A,.row [.int .i64 (k:Nat)] 1),(t,.row [ptrTo s] 1),(f,.row (i6 (M*l) B1) 1)]++dP p) []:=T;have T':St (· =f) u _ ([(t,.row [ptrTo s] 1),(f,.row (i6 (M*l) B1) 1)]++(D,.dfr)::dP p) []:=(T1.permL perm_db).drop1;simp only [BZ,r19,w,seval];exact ih (k+1) _ _ _ (by omega) ⟨by omega,D::p,B1,rfl,T',ac,Z.next,by simp [aD,r0,an,r1,r5,r18]⟩
   . have:k=M:=(by omega);subst this;have gE:=gO S;have S0:=S;simp only [LC]at S;simp only [BZ,r5,r18,r19,aG,hlt,S.ld (b:=t) (o:=0) m0 rfl,seval];refine dz (ir p _ (L:=[(t,_),(f,_)]) (S0.permL XB) fun h4 S4=>?_);refine⟨rfl,(eo (by decide)).2 (cg.2 ?_)⟩;refine⟨gO S4,s,f,B,?_,by omega,by omega,E,⟨hr S4,S4.row m1,hB⟩,oB⟩;exact rfl
 . exact⟨Xd _,[],_,rfl,S,U.lt,OkB.zero,by simp [aD,c8,an]⟩
theorem get1_ok(g:OZ h0)(l:h0.load b j 1=some [.int .u8 (x:Nat)])(c:x<256)(d:i<8):aT zM 276 [.pointer (some ⟨b,j,none⟩),.int .u8 ((2 ^i:Nat):Int)] h0 (.bool (x.testBit i)):=by
 have S:=Si g;cases f:x.testBit i with
 | true=>
   have a: ¬(((x&&& 2 ^i:Nat)):Int)=0:=fun e=>(by have:(x&&& 2 ^i)=0:=(by omega);rw [and_pow,f]at this;cases this);refine aa (n:=11) (rs:=[.tmp 4]) rfl Tryz.e276 rfl rfl rfl (lbt rfl) ?_;simp only [BZ,ab,l,b_and8 c (pow8 d),a,seval];exact S.gr
 | false=>have a:(((x&&& 2 ^i:Nat)):Int)=0:=(by have:=and_pow.2 f;omega);refine aa (n:=11) (rs:=[.tmp 4]) rfl Tryz.e276 rfl rfl rfl (lbt rfl) ?_;simp only [BZ,ab,l,b_and8 c (pow8 d),a,seval];exact S.gr
section
variable{h0:Hp}{bp bb rows wide long:Nat}{B:Nat->Nat}
theorem bGet_ok(j:OZ h0)(m:fG h0 bp bb rows wide long B)(t:r<rows)(u:i<wide)(b:rows<=100)(c:wide<=1000)(d:long=(wide+7)/8):
 aT zM 256 [ptrTo bp,.int .i64 (r:Nat),.int .i64 (i:Nat)] h0 (.bool (gQ B long r i)):=by
 obtain⟨w,x,y,z,k,M,l⟩:=tK t u b c d;have A: ∀{h:Hp},Gr h0 h->aT zM 99 [ptrTo bp,.int .i64 (r:Nat),.int .i64 (i:Nat),.func (.func 276) #[] #[]] h (.bool (gQ B long r i)):=by
  intro h g;have S:=Si g.ok;have e:=m.gr g;have C: ¬(r:Int)<0:=by omega
  have D: ¬(rows:Int)<=(r:Int):=by omega
  have E: ¬(i:Int)<0:=by omega
  have F: ¬(wide:Int)<=(i:Int):=by omega
  have G:=e.r.load1 (o:=2) rfl;have H:=e.r.load1 (o:=3) rfl;have I:=e.b.load1 (wC k);have J:=e.r.lt g.ok;refine aa (n:=46) (rs:=[.tmp 8]) rfl Tryz.e99 rfl rfl rfl (lbt rfl) ?_;simp only [BZ,C,seval];refine am (jH S.ok e.bits) ?_;intro N f;replace S:=S.call f;simp only [BZ,D,E,seval];refine am (jI S.ok (e.gr f).bits) ?_;intro O p;replace S:=S.call p;have a:=f.trans p;have K:=a.load G;have L:=a.load H;simp only [BZ,F,seval];refine ar (aw rfl) (q:=0) (ps:=[]) (by kernel_rfl) ?_;simp only [BZ,cls,K,L,w,x,y,z,k,mS (n:=8) (by decide),jO (n:=8) (by decide),b_shl8 l,seval];refine bg (get1_ok S.ok (a.load I) (e.lt _) l) ?_;intro P s;have v:=ah s (Xa J a.n);replace S:=S.call s;simp only [BZ,cls,ab,seval];exact⟨rfl,S.gr⟩
 have S:=Si j;refine aa (n:=11) (rs:=[.tmp 6]) rfl Tryz.e256 rfl rfl rfl (lbt rfl) ?_;simp only [BZ,seval];refine am (A (Gr.refl j)) ?_;intro h g;simp only [BZ,ab,seval];exact g
end
theorem bOn_ok(e:OZ h0):Ret zM 217 [ptrTo d,.int .i64 (r:Nat)] h0 fun v h'=>Gr h0 h'/\ ∃b2 a,v=.func (.func 255) #[] #[ptrTo b2,ptrTo a]/\h0.n<=b2/\h0.n<=a/\h'.load b2 0 1=some [ptrTo d]/\h'.load a 0 1=some [.int .i64 (r:Nat)]:=by have S:=Si e;refine aa (n:=6) (rs:=[.tmp 4]) rfl Tryz.e217 rfl rfl rfl (lbt rfl) ?_;simp only [BZ,seval];refine ae (bN (by exact bH)) S ?_;clear S;intro h b2 S b;simp only [BZ,if_false,seval];refine ae (bN (by exact aU)) S ?_;clear S;intro h a S c;simp only [BZ,ab,seval];exact⟨S.gr,b2,a,rfl,b,c,S.ld m1 rfl,S.ld m0 rfl⟩
section
variable{h0:Hp}{bp bb rows wide long:Nat}{B:Nat->Nat}
theorem fG.its(s:ItS h0 D h F)(a:OZ h0)(m:fG h0 bp bb rows wide long B)(b:D bp)(c:D bb):fG h bp bb rows wide long B:=
 ⟨Row.of_get (s.data bp (m.r.lt a) b) m.r,Row.of_get (s.data bb (m.b.lt a) c) m.b,m.lt⟩
theorem on1_it (b:OZ h0) (m:fG h0 bp bb rows wide long B)  (C:r<rows) (d:rows<=100) (e:wide<=1000) (f:long=(wide+7)/8)  (x:h0.load b2 0 1=some [ptrTo bp]) (e3:h0.load k 0 1=some [.int .i64 (r:Nat)]):
 nG zM 255 [] [ptrTo b2,ptrTo k] h0 (fun c=>c=b2\/c=k\/c=bp\/c=bb) (((zO wide).filter (gQ B long r)).map fun(i:Nat)=>[.int .i64 (i:Nat)]):=by
 intro D J Z E Y h F s g;have l:=s.load b x (.inl rfl);refine enter (n:=21) (rs:=[]) rfl Tryz.e255 rfl rfl rfl (lbt rfl) ?_;simp only [BZ,l,seval];refine am (jI s.ok (m.its s b (.inr (.inr (.inl rfl))) (.inr (.inr (.inr rfl)))).bits) ?_;intro M p;have y:=s.gr p;have z:=Y.gr _ _ _ _ g p;simp only [BZ];refine bj (fun(i:Nat) j h=>i<=wide/\ ∃F,ItS h0 (fun c=>c=b2\/c=k\/c=bp\/c=bb) h F/\J ((zO i).filter (gQ B long r)).length h F/\j 0=.func (.yield D) #[] #[]/\j 1=ptrTo b2/\j 2=ptrTo k/\j 6=.int .i64 (wide:Nat)/\j 7=.int .i64 i) (fun i=>wide-i) ?_ 0 _ _ ?_
 . clear l s g y z F p h;intro i A j h ⟨hi,F,s,g,r0,r1,r2,r6,r7⟩;have w:au .i64 ((i:Int)+1)=((i+1:Nat):Int):=(by rw [wrap64]<;>omega);by_cases hlt:i<wide
   . have l:=s.load b x (.inl rfl);have G:=s.load b e3 (.inr (.inl rfl));have H:=m.its s b (.inr (.inr (.inl rfl))) (.inr (.inr (.inr rfl)));simp only [BZ,r1,r2,r6,r7,aG,hlt,l,G,seval];refine am (bGet_ok s.ok H C hlt d e f) ?_;intro N o;cases q:gQ B long r i with
     | true=>
       have I:(((zO wide).filter (gQ B long r)).map fun(i:Nat)=>[Value.int .i64 (i:Nat)])[((zO i).filter (gQ B long r)).length]? =some [.int .i64 (i:Nat)]:=(by rw [Xm,uO q _ hlt];rfl);have t:((zO (i+1)).filter (gQ B long r)).length=((zO i).filter (gQ B long r)).length+1:=(by rw [kI,if_pos q];simp);simp only [BZ,r0,seval];refine du Y (s.gr o) (Y.gr _ _ _ _ g o) (i:=((zO i).filter (gQ B long r)).length) I ?_ ?_ ?_
       . intro u K a L _ _;simp only [BZ,r7,w,seval];exact A (i+1) _ _ (by omega) ⟨by omega,K,L,by rw [t];exact a,by simp [aD,r0,r1,an,r2,r6]⟩
       . intro u a _;simp only [BZ,seval];exact iE rfl ⟨rfl,.inr (.inl ⟨_,rfl,a⟩)⟩
       . intro v u a;exact absurd a (E v u)
     | false=>have t:(zO (i+1)).filter (gQ B long r)=(zO i).filter (gQ B long r):=(by rw [kI,if_neg (by rw [q];decide)];simp);simp only [BZ,r7,w,seval];exact A (i+1) _ _ (by omega) ⟨by omega,F,s.gr o,by rw [t];exact Y.gr _ _ _ _ g o,by simp [aD,r0,r1,an,r2,r6]⟩
   . simp only [BZ,r6,r7,aG,hlt,seval];have:i=wide:=(by omega);subst this;exact cE (cu ⟨rfl,_,rfl,rfl,.inl ⟨_,F,rfl,by simpa using g⟩⟩)
 . exact⟨Xd _,F,y,z,by simp [aD,c8,an]⟩
theorem bRow_ok(G:OZ h0)(m:fG h0 bp bb rows wide long B)(hr:r<rows)(s:rows<=100)(d:wide<=1000)(t:long=(wide+7)/8):
 Ret zM 148 [ptrTo bp,.int .i64 (r:Nat)] h0 fun v h'=>Gr h0 h'/\az h' 1 bO v ((zO wide).filter (gQ B long r))/\ ∀c,av v c->h0.n<=c:=by
 have S:=Si G;refine aa (n:=15) (rs:=[.cell 4 41]) rfl Tryz.e148 rfl rfl rfl (lbt rfl) ?_;simp only [BZ];refine ae aA S ?_;clear S;intro h p S Q;simp only [BZ,seval];have k4:=(S.row (b:=p) m0).lt S.ok;refine step_ret (bOn_ok S.ok) ?_;rintro v R ⟨g,b2,b3,rfl,n2,n3,y2,y3⟩;have H:=m.gr (S.gr.trans g);replace S:=S.call g;have U:=on1_it S.ok H hr s d t y2 y3;have zp:=H.r.lt S.ok;have zb:=H.b.lt S.ok;have wp:=m.r.lt G;have wb:=m.b.lt G;generalize I:(zO wide).filter (gQ B long r)=f at U;have ad:f.length<=1000:=by rw [<-I];exact Xl sH d
 simp only [BZ];replace S:=S.nilG (k:=1);refine iD S (g:=255) (a:=#[]) (b:=#[ptrTo b2,ptrTo b3]) (by simp [bG,aD,an]) rfl rfl ?_;intro J E u z K M V;obtain⟨X,W,z⟩: ∃X:gu,X=_/\St NoM h0 J [(u,.loop X),(E,.dfr),(p,.row [.slice none 0 0] 1)] [(.slice none 0 0,1,[])]:=⟨_,rfl,z⟩;have hJ:Yld zM u (fun k h' F=> ∃(l:Value),St NoM h0 h' [(u,.loop X),(E,.dfr),(p,.row [l] 1)] [(l,1,hI (f.take k))]/\k<=f.length/\F=keys [(u,.loop X),(E,.dfr),(p,.row [l] 1)] [(l,1,hI (f.take k))]/\(∀c∈F,R.n<=c\/c=p)) (fun _ _=>False) (f.map fun(i:Nat)=>[.int .i64 (i:Nat)]):=by
  refine⟨?_,?_,fun _ _ h=>h.elim,?_⟩
  . rintro i h F ⟨l,S,_,rfl,_⟩;exact⟨S.ok,fun b q=>S.key_lt q⟩
  . rintro i h F h' ⟨l,S,a,rfl,c⟩ gg;exact⟨l,S.call gg,a,rfl,c⟩
  . rintro i x hR F N ⟨l,S,a,rfl,Y⟩;have A:i<f.length:=(by have:=(List.getElem?_eq_some_iff.1 N).1;simpa using this);rw [Xm,Xc A]at N;cases N;have Z:hI (f.take (i+1))=hI (f.take i)++[.int .i64 (f[i]:Nat)]:=(by rw [Xe A];unfold hI;rw [List.map_append];rfl);have tl:(hI (f.take i)).length<=i:=(by rw [pK,XM];omega);generalize f[i]=x at Z;have af:Fl l:=(S.gown _ m0).1.fl;subst W;refine iB (S.get m0) (by rw [Tryz.e148];rfl) rfl ?_;have S0:=S;have kR:=S.fr.n;have lim:R.n<=hR.n:=(by have h1:=Y u (by simp [keys]);have J:=S.key_lt (b:=u) (by simp [keys]);omega);replace S:=S.base;simp only [BZ,seval];refine ib S (i:=0) rfl rfl rfl rfl rfl ?_;clear S;intro h S;simp only [LC]at S;simp only [BZ,S.ld (b:=p) (o:=0) m2 rfl,seval];refine ae (ce (by exact Tryz.t41.1) (by exact Tryz.e3E) (by decide) (by rfl)) S ?_;clear S;intro h bs S ac;simp only [LC,bJ,cq,ag,XF,Xw,Xt,XG,seval]at S;simp only [BZ,seval];have C:aR h 1 (.slice (some ⟨bs,0,none⟩) 1 1)=some (1,[.int .i64 (x:Nat)]):=(by simp only [aR];rw [S.lds (b:=bs) (o:=0) (n:=1*1) m0 (lbt rfl)];rfl);replace S:=S.drop1;refine dQ (S.grow (j:=0) (m:=1) (new:=[.int .i64 (x:Nat)]) rfl Tryz.t41.1 Tryz.e3E (by decide) Tryz.t41.2.2.2.2.2 C rfl (by decide) rfl (by rw [pK];simp;omega)) ?_;clear S C;rintro h D S;simp only [LC]at S;have O:Fl D:=(S.gown _ m0).1.fl;simp only [BZ,seval];refine aE (aF S (i:=2) rfl Tryz.t41.2.2.1 O (Xf (lbt rfl)) ono) ?_;clear S;rintro h ⟨S,_⟩;simp only [LC]at S;simp only [BZ];refine d6 S (i:=0) rfl ?_;clear S;intro h S;simp only [LC]at S;rw [<-Z]at S;refine .inl ⟨rfl,_,⟨D,S0.rebase S,by omega,rfl,fun c w=>?_⟩,S.fr,S.key_new⟩;rcases S.key_new c w with h|h
    . exact Y c h
    . exact .inl (by omega)
 refine cR (U u _ _ (fun _ _ h=>h) hJ J _ ?_ ⟨_,z,Xd _,rfl,fun c w=>?_⟩) fun o rc h' y=>jt y ?_
 . refine⟨z.ok,V.n,fun b q _=>V.get b q,fun b q h=>?_,fun b q=>z.key_lt q⟩;simp only [keys,XA,XD,XT,eH,XI,XQ,Xo,Xk,or_false]at q;rcases q with rfl|rfl|rfl
   . omega
   . omega
   . rcases h.2 with e|e|e|e<;>omega
 . simp only [keys,XA,XD,XT,eH,XI,XQ,Xo,Xk,or_false]at w;rcases w with rfl|rfl|rfl
   . exact .inl M
   . exact .inl K
   . exact .inr rfl
 . rintro F ⟨l,T,b,rfl,_⟩;rw [Xp,Xn]at T;subst W;refine⟨_,T.get m0,XE,?_⟩;replace T:=T.dead;have S:=T;show Run _ _ _ _ _ _ _ _;simp only [BZ,S.ld (b:=p) (o:=0) m1 rfl,seval];have O:Fl l:=(T.gown _ m0).1.fl;clear S;refine aE (aF T (i:=1) rfl Tryz.t41.2.2.1 O (Xf (lbt rfl)) ono) ?_;clear T;rintro h3 ⟨T,_⟩;simp only [XJ,List.set_cons_succ]at T;simp only [BZ];refine dz (ir [E] _ (L:=[(p,_)]) T.base fun h4 P=>?_);refine⟨rfl,(bF (by decide) (by simp only [aC,an,seval];exact kY Tryz.t41.2.1 (P.ld (b:=p) (o:=0) m0 rfl))).2 (cg.2 ⟨(T.rebase P).gr,(P.gown _ m0).1.sl (wj _).symm dr (by decide),fun c w=>?_⟩)⟩;rcases(T.gblk m0 w).1 with h|h
   . exact h
   . exact h.elim
end
theorem allowF_ok(M:OZ h0){H l f g:Nat}(m:fG h0 H N l f g B)(O:k<l)(p:l<=100)(q:f<=1000)(s:g=(f+7)/8):
 Ret zM 56 [ptrTo H,.int .i64 (k:Nat)] h0 fun r h'=>Gr h0 h'/\ ∃o,r=.slice (some ⟨o,0,none⟩) f f/\Row h' o (eu f (gQ B g k)) 1/\h0.n<=o:=by
 have S:=Si M;have P: ¬((k:Int)<0):=by omega
 have Q: ¬((l:Int)<=(k:Int)):=by omega
 refine aa (n:=32) (rs:=[.tmp 4]) rfl Tryz.e56 rfl rfl rfl (lbt rfl) ?_;simp only [BZ,P,seval];refine am (jH S.ok m.bits) ?_;intro R T;replace S:=S.call T;simp only [BZ,Q,seval];refine am (jI S.ok (m.gr S.gr).bits) ?_;intro h2 U;replace S:=S.call U;simp only [BZ,seval];refine ae (mD (by exact Tryz.t100.1) (by exact Tryz.e4E) (by omega) (by omega)) S ?_;clear S;intro h o S y;have V:bJ [Value.bool false] f=eu f (fun a=>decide (a∈((zO f).filter (gQ B g k)).take 0)):=by rw [oW];unfold eu;simp [List.map_const']
 rw [Xy,V]at S;simp only [BZ,Xy,seval];refine step_ret (bRow_ok S.ok (m.gr S.gr) O p q s) ?_;rintro v W ⟨X,D,Y⟩;have k3:=(S.row (b:=o) m0).lt S.ok;replace S:=S.call X;generalize E:(zO f).filter (gQ B g k)=L at D S;have F: ∀a∈L,a<f:=fun a I=>by rw [<-E]at I;exact List.mem_range.1 (List.mem_filter.1 I).1
 have Z:L.length<=f:=by rw [<-E];exact sH
 have ac:=S.ok;have nA:=S.gr;simp only [BZ,D.lenq,seval];refine bj (fun(i:Nat) z h=>i<=L.length/\St NoM h0 h [(o,.row (eu f (fun a=>decide (a∈L.take i))) 1)] []/\(∀c,av v c->h.get c=W.get c)/\z 5=.slice (some ⟨o,0,none⟩) f f/\z 21=v/\z 22=.int .i64 (L.length:Nat)/\z 23=.int .i64 i) (fun i=>L.length-i) ?_ 0 _ _ ?_
 . clear S;intro i ih z h ⟨hi,S,hv,r5,r21,r22,r23⟩;have w:au .i64 ((i:Int)+1)=((i+1:Nat):Int):=(by rw [wrap64]<;>omega);by_cases hlt:i<L.length
   . have J:=sl_get D hv;obtain⟨d,oo,x0,A⟩:=J.ix (kd:=.i64) dr hlt;have t:=F _ (Xh hlt);have G:eu f (fun u=>decide (u∈L.take (i+1)))=(eu f (fun u=>decide (u∈L.take i))).set L[i] (.bool true):=(by rw [Ch];refine mV fun j _=>?_;rw [Xe hlt];simp only [XC,XH];by_cases e1:j=L[i]<;>by_cases e2:j∈L.take i<;>simp [e1,e2]);rw [show(L.take (i+1))=L.take (i+1)from rfl]at G;generalize L[i]=x at t A G;replace A:h.load d oo 1=some [.int .i64 (x:Nat)]:=A;simp only [BZ,r5,r21,r22,r23,aG,hlt,x0,A,seval];have K:=S;replace S:=S.base;simp only [BZ,t,seval];refine aE (aF S (i:=0) rfl Tryz.t4.2.2.1 og (by rw [tW];exact t) ono) ?_;clear S;rintro h' ⟨S,mo⟩;simp only [LC]at S;simp only [BZ,r23,w,seval];refine ih (i+1) _ _ (by omega) ⟨by omega,?_,?_,by simp [aD,r5,r21,r22]⟩
     . rw [G];exact K.rebase S
     . intro c C;have R:=Y c C;exact(mo.get c (J.blt K.ok C) (fun e=>by have e:c=o:=e;omega)).trans (hv c C)
   . have:i=L.length:=(by omega);subst this;simp only [BZ,ab,r5,r22,r23,aG,hlt,seval];refine⟨S.gr,o,rfl,?_,y⟩;have e:eu f (gQ B g k)=eu f (fun a=>decide (a∈L.take L.length)):=mV fun j hj=>(by rw [Xn,<-E];simp [List.mem_filter,hj]);rw [e];exact S.row m0
 . exact⟨Xd _,S,fun c C=>rfl,by simp [aD]⟩
def sfC(b c pn d:Value)(way f t a:Int):List Value:=[b,c,pn,d,.int .i64 way,.int .i64 f,.int .i64 t,.int .i64 a]
section
variable{hq:Hp}{bq bp nb nd mk:Nat}{γ:Gra}{pc pf pt:Value}{way f t a:Int}{fitB:Bool}
theorem sfNet_ok(R:Row hq bq (sfC pc pf (ptrTo bp) pt way f t a) 1)(b:hq.load b1 0 1=some [ptrTo bq]): ∀h,Gr hq h->aT zM 142 [ptrTo b1] h (.bool true):=by intro h g;have S:=Si g.ok;have c:=(R.gr g).load1 (o:=2) rfl;refine aa (n:=7) (rs:=[.tmp 1]) rfl Tryz.e142 rfl rfl rfl (lbt rfl) ?_;simp only [BZ,ab,g.load b,c,seval];exact S.gr
theorem sfWay_ok(R:Row hq bq (sfC pc pf (ptrTo bp) pt way f t a) 1)(c:hq.load b1 0 1=some [ptrTo bq]): ∀h,Gr hq h->aT zM 143 [ptrTo b1] h (.bool (decide (way=4\/way=5))):=by
 intro h g;have S:=Si g.ok;have d:=(R.gr g).load1 (o:=4) rfl;refine aa (n:=16) (rs:=[.tmp 1]) rfl Tryz.e143 rfl rfl rfl (lbt rfl) ?_;by_cases b:way=4
 . simp only [BZ,ab,g.load c,d,b,seval];exact⟨by simp [b],S.gr⟩
 . by_cases e:way=5
   . subst e;simp only [BZ,ab,g.load c,d,(by decide: ¬(5:Int)=4),seval];exact⟨by simp,S.gr⟩
   . simp only [BZ,ab,g.load c,d,b,e,seval];exact⟨by simp [b,e],S.gr⟩
theorem yO(c:aX hq nb (ptrTo bp) γ)(R:Row hq bq (sfC pc pf (ptrTo bp) pt way f t a) 1){v:Int}: ∀h,Gr hq h->aT zM 145 [ptrTo bq,.int .i64 v] h (.bool (decide (0<=v/\v<γ.nodes))):=by
 intro h g;have S:=Si g.ok;have d:=(R.gr g).load1 (o:=2) rfl;refine aa (n:=16) (rs:=[.tmp 4]) rfl Tryz.e145 rfl rfl rfl (lbt rfl) ?_;by_cases b:0<=v
 . simp only [BZ,d,b,seval];refine am (bM S.ok ((c.gr g).gr S.gr)) ?_;intro h g;replace S:=S.call g;clear g;simp only [BZ,ab,seval];exact S.gr
 . simp only [BZ,ab,b,seval];exact⟨by simp [b],S.gr⟩
theorem sfFrom_ok(b:aX hq nb (ptrTo bp) γ)(R:Row hq bq (sfC pc pf (ptrTo bp) pt way f t a) 1)(c:hq.load b1 0 1=some [ptrTo bq]): ∀h,Gr hq h->aT zM 144 [ptrTo b1] h (.bool (decide (0<=f/\f<γ.nodes))):=by intro h g;have S:=Si g.ok;have d:=(R.gr g).load1 (o:=5) rfl;refine aa (n:=9) (rs:=[.tmp 1]) rfl Tryz.e144 rfl rfl rfl (lbt rfl) ?_;simp only [BZ];refine ar (aw rfl) (q:=0) (ps:=[]) (by kernel_rfl) ?_;simp only [BZ,cls,g.load c,d,seval];refine bg (yO b R _ (g.trans S.gr)) ?_;intro i e;replace S:=S.call e;simp only [BZ,cls,ab,seval];exact S.gr
theorem sfTo_ok(b:aX hq nb (ptrTo bp) γ)(R:Row hq bq (sfC pc pf (ptrTo bp) pt way f t a) 1)(c:hq.load b1 0 1=some [ptrTo bq]): ∀h,Gr hq h->aT zM 146 [ptrTo b1] h (.bool (decide (0<=t/\t<γ.nodes))):=by intro h g;have S:=Si g.ok;have d:=(R.gr g).load1 (o:=6) rfl;refine aa (n:=9) (rs:=[.tmp 1]) rfl Tryz.e146 rfl rfl rfl (lbt rfl) ?_;simp only [BZ];refine ar (aw rfl) (q:=0) (ps:=[]) (by kernel_rfl) ?_;simp only [BZ,cls,g.load c,d,seval];refine bg (yO b R _ (g.trans S.gr)) ?_;intro i e;replace S:=S.call e;simp only [BZ,cls,ab,seval];exact S.gr
theorem Da(u:aX hq nb (ptrTo bp) γ)(T:TabO zM hq pt nd mk 41 40)(R:Row hq bq (sfC pc pf (ptrTo bp) pt way f t a) 1): ∀h,Gr hq h->aT zM 216 [ptrTo bq] h (.bool (decide (0<mk/\nd=γ.nodes))):=by
 intro h g;have w:=T.fl;have S:=Si g.ok;have z:=(R.gr g).lt g.ok;have e:=(R.gr g).load1 (o:=3) rfl;have v:=(R.gr g).load1 (o:=2) rfl;refine aa (n:=23) (rs:=[.tmp 2]) rfl Tryz.e216 rfl rfl rfl (lbt rfl) ?_;simp only [BZ];refine ar (aw rfl) (q:=0) (ps:=[(12,16)]) (by kernel_rfl) ?_;simp only [BZ,cls,e,seval];refine bQ (T.marks _ (g.trans S.gr)) ?_;rintro r x ⟨b,l,i,y⟩;replace S:=S.call b;have j:=ah b z;by_cases k:0<mk
 . have d:(0:Int)<(l.length:Int):=(by omega);simp only [BZ,cls,i.lenq,d,b.load e,seval];refine bg (T.nodes _ (g.trans S.gr)) ?_;intro A c;have m:=ah c (Xa z b.n);replace S:=S.call c;simp only [BZ,cls,c.load (b.load v),seval];refine bg (bM S.ok ((u.gr g).gr S.gr)) ?_;intro B p;have s:=ah p (Xa z (b.trans c).n);replace S:=S.call p;simp only [BZ,cls,ab,seval];refine⟨by simp only [aK,aO,aH,aQ,aJ,ne_eq,not_false_eq_true,aS,bz,aN,aM,bG,bS,aC,Xb,an,c8,ao j,aq j,ao m,aq m,ao s,aq s,seval],?_⟩;exact⟨by simp [k,Int.ofNat_inj],S.gr⟩
 . have d: ¬(0:Int)<(l.length:Int):=(by omega);simp only [BZ,cls,ab,i.lenq,d,seval];exact⟨by simp only [aK,aO,aH,aQ,aJ,ne_eq,not_false_eq_true,jq,rH,Xb,seval],by simp [k],S.gr⟩
def jw(fitB:Bool)(way:Int)(mk nd N:Nat):Bool:=fitB&&(decide (way≠5)||decide (0<mk/\nd=N))
theorem sfFits_ok(i:aX hq nb (ptrTo bp) γ)(T:TabO zM hq pt nd mk 41 40)(R:Row hq bq (sfC pc pf (ptrTo bp) pt way f t a) 1)(m:Fl pc)(p:Fl pf)(F: ∀h,Gr hq h->aT zM 42 [ptrTo bp,pc,pf] h (.bool fitB)):
 ∀h,Gr hq h->aT zM 147 [ptrTo bq] h (.bool (jw fitB way mk nd γ.nodes)):=by
 intro h g;have S:=Si g.ok;have z:=(R.gr g).lt g.ok;have j:=(R.gr g).load1 (o:=0) rfl;have k:=(R.gr g).load1 (o:=1) rfl;have l:=(R.gr g).load1 (o:=2) rfl;have d:=(R.gr g).load1 (o:=4) rfl;refine aa (n:=30) (rs:=[.tmp 2]) rfl Tryz.e147 rfl rfl rfl (lbt rfl) ?_;simp only [BZ];refine ar (aw rfl) (q:=0) (ps:=[]) (by kernel_rfl) ?_;simp only [BZ,cls,j,k,l,seval];refine bg (F _ (g.trans S.gr)) ?_;intro r b;have s:=ah b z;replace S:=S.call b;cases fitB with
 | false=>simp only [BZ,cls,ab,seval];exact⟨by simp [jw],S.gr⟩| true=>
   by_cases c:way=5
   . simp only [BZ,cls,b.load d,c,seval];refine bg (Da i T R _ (g.trans S.gr)) ?_;intro u e;have v:=ah e (Xa z b.n);replace S:=S.call e;simp only [BZ,cls,ab,seval];exact⟨by simp [jw],S.gr⟩
   . simp only [BZ,cls,ab,b.load d,c,seval];exact⟨by simp [jw,c],S.gr⟩
end
structure Rs where
 g:FuncId
 pre:Array Value
 post:Array Value
 ok:Bool
 code:Int
def argS(r:Rs):List Value:=[.int .i64 r.code,.func (.func r.g) r.pre r.post]
def re:List Rs->Int
 | []=>0|r::a=>if r.ok=true then re a else r.code
theorem firstS_at{rs:List Rs}{r:Rs}(h:rs[i]? =some r)(a: ∀q∈rs.take i,q.ok=true)(b:r.ok≠true):re rs=r.code:=by
 induction rs generalizing i with
 |nil=>cases h
 | cons q rs c=>
   cases i with
   |zero=>cases h;unfold re;rw [if_neg b]
   | succ i=>
     rw [re,if_pos (a q (by simp))];exact c (by simpa using h) (fun x d=>a x (by simp [d]))
theorem EW{rs:List Rs}(h: ∀q∈rs,q.ok=true):re rs=0:=by
 induction rs with
 |nil=>rfl|cons q rs a=>rw [re,if_pos (h q (by simp))];exact a (fun x b=>h x (by simp [b]))
def sfRs(b1 bq:Nat)(okW okF okT okX:Bool):List Rs:=[⟨142,#[],#[ptrTo b1],true,1⟩,⟨143,#[],#[ptrTo b1],okW,16⟩,⟨144,#[],#[ptrTo b1],okF,17⟩,⟨146,#[],#[ptrTo b1],okT,18⟩,⟨147,#[ptrTo bq],#[],okX,19⟩]
theorem looks_ok(b:OZ h0):Ret zM 53 [ptrTo bq] h0 fun v h'=>Gr h0 h'/\ ∃b1,v=.func (.func 141) #[] #[ptrTo b1]/\h0.n<=b1/\h'.load b1 0 1=some [ptrTo bq]:=by have S:=Si b;refine aa (n:=4) (rs:=[.tmp 2]) rfl Tryz.e53 rfl rfl rfl (lbt rfl) ?_;simp only [BZ,seval];refine ae (bN (by exact bH)) S ?_;clear S;intro h b1 S a;simp only [BZ,ab,seval];exact⟨S.gr,b1,rfl,a,S.ld m0 rfl⟩
theorem looks1_it(f:OZ h0)(g:h0.load b1 0 1=some [ptrTo bq]):nG zM 141 [] [ptrTo b1] h0 (fun c=>c=b1) ((sfRs b1 bq okW okF okT okX).map argS):=by
 intro l J Z e Y h F s b;have S:=Si s.ok;refine enter (n:=27) (rs:=[]) rfl Tryz.e141 rfl rfl rfl (lbt rfl) ?_;simp only [BZ,seval];refine du Y s b (i:=0) rfl ?_ ?_ (fun v d a=>absurd a (e v d));rotate_left
 . intro d a _;simp only [BZ,seval];exact cE (cu ⟨rfl,_,rfl,rfl,.inr (.inl ⟨_,rfl,a⟩)⟩)
 clear b s;intro m o b s _ _;simp only [BZ,seval];refine du Y s b (i:=1) rfl ?_ ?_ (fun v d a=>absurd a (e v d));rotate_left
 . intro d a _;simp only [BZ,seval];exact cE (cu ⟨rfl,_,rfl,rfl,.inr (.inl ⟨_,rfl,a⟩)⟩)
 clear b s;intro p q b s _ _;simp only [BZ,seval];refine du Y s b (i:=2) rfl ?_ ?_ (fun v d a=>absurd a (e v d));rotate_left
 . intro d a _;simp only [BZ,seval];exact cE (cu ⟨rfl,_,rfl,rfl,.inr (.inl ⟨_,rfl,a⟩)⟩)
 clear b s;intro d r b s _ _;simp only [BZ,seval];refine du Y s b (i:=3) rfl ?_ ?_ (fun v d a=>absurd a (e v d));rotate_left
 . intro d a _;simp only [BZ,seval];exact cE (cu ⟨rfl,_,rfl,rfl,.inr (.inl ⟨_,rfl,a⟩)⟩)
 clear b s;intro t u b s _ _;have j:=s.load f g rfl;simp only [BZ,j,seval];refine du Y s b (i:=4) rfl ?_ ?_ (fun v d a=>absurd a (e v d));rotate_left
 . intro d a _;simp only [BZ,seval];exact cE (cu ⟨rfl,_,rfl,rfl,.inr (.inl ⟨_,rfl,a⟩)⟩)
 clear b s;intro w k b s _ _;simp only [BZ,seval];exact cE (cu ⟨rfl,_,rfl,rfl,.inl ⟨_,k,rfl,b⟩⟩)
theorem exTo(b:OZ h0)(a:Good γ){c:Nat}(d:aX h0 c pn γ)(e:s<γ.nodes)(v:Nat):IsD (seen γ.arcs Arc.t Arc.s) s v (dOf (seen γ.arcs Arc.t Arc.s) s v):=by obtain⟨_,_,_,_,_,_,_,D,_,_,_,_,_,_,_,f,_⟩:=tQ b a d e;exact(xU (f v)).2
theorem exFrom(b:OZ h0)(a:Good γ){c:Nat}(d:aX h0 c pn γ)(e:s<γ.nodes)(v:Nat):IsD (seen γ.arcs Arc.s Arc.t) s v (dOf (seen γ.arcs Arc.s Arc.t) s v):=by obtain⟨_,_,_,_,_,_,_,D,_,_,_,_,_,_,_,f,_⟩:=uu b a d e;exact(xU (f v)).2
theorem te(B:List Arc)(N s:Nat):(rowD B N s).length=N:=by simp [rowD]
inductive rJ(A:List Arc)(s:Nat):List Nat->Nat->Nat->Prop where
 |nil:rJ A s [] s 0
 |snoc {l:List Nat} {w a:Nat}:rJ A s l (A.getD a default).s w->a<A.length->rJ A s (l++[a]) (A.getD a default).t (w+(A.getD a default).w)
theorem ends_len{A:List Arc}{to:Nat}{al:Nat->Bool}{pi:Nat->Int}{σ:SS}{r:Fd}(f: ∀a∈A,a.t<N/\a.w<=cH)(l:N<=12)(m:A.length<=100)(g:Ends A al pi to σ r):Sv A N s al pi σ->σ.ev.length<=σ.O.length*200->r.arcs.length<=12/\r.ev.length<=3000:=by
 induction g with
 | @none σ n=>intro h b;have:=h.len;exact⟨Xd _,by show σ.ev.length<=3000;omega⟩| @hit σ k c=>intro h b;have d:=h.len;have e:=(h.bd to).2;refine⟨by show(σ.P to).reverse.length<=12;rw [List.length_reverse];omega,?_⟩;show(σ.ev++[_]).length<=3000;simp;omega| @step σ v k r c i _ j=>
   intro h b;obtain⟨d,e⟩:=h.next f c.1
   refine j d ?_;have o:=Cf A al pi v (fJ σ v);have p:(fJ σ v).ev.length=σ.ev.length+1:=(by show(σ.ev++[_]).length=_;simp);rw [e.O];show _<=(σ.O++[v]).length*200;simp;omega
theorem found_len(b:Good γ){to:Nat}(f:s<γ.nodes){al:Nat->Bool}{pi:Nat->Int}{c:Fd}(d:(s=to/\c=⟨0,[],[]⟩)\/(s≠to/\Ends γ.arcs al pi to (lW pi s) c)):c.arcs.length<=12/\c.ev.length<=3000:=by
 rcases d with⟨_,rfl⟩|⟨_,d⟩
 . exact⟨Xd _,Xd _⟩
 . refine ends_len (fun a e=>⟨(b.arcs a e).2.1,(b.arcs a e).2.2⟩) b.n2 b.many d (sv_init f) ?_;have g:(lW pi s).ev.length=0:=(by unfold lW;rw [xF];rfl);omega
theorem fold_ge(l:List Int)(a:Int):a<=l.foldl max a/\ ∀x∈l,x<=l.foldl max a:=by
 induction l generalizing a with
 |nil=>exact⟨Int.le_refl _,fun x h=>by cases h⟩
 | cons y e c=>
   obtain⟨f,d⟩:=c (max a y);refine⟨by rw [List.foldl_cons];omega,fun x b=>?_⟩;rw [List.foldl_cons];rcases List.mem_cons.1 b with rfl|b
   . omega
   . exact d x b
theorem lmax_ge{x:Int}(h:x∈l):x<=gP l:=by
 cases l with
 |nil=>cases h
 | cons y a=>
   rw [gP];rcases List.mem_cons.1 h with rfl|h
   . exact(fold_ge a _).1
   . exact(fold_ge a _).2 x h
theorem slB_of(R:Row h a (eu n f) 1):az h 1 encB (.slice (some ⟨a,0,none⟩) n n) ((zO n).map f):=by refine .inr ⟨a,0,none,n,by simp,by simp,?_⟩;rw [R.load (by rw [tW];simp),Xx,List.take_of_length_le (by rw [tW];simp),List.flatMap_map];exact congrArg some List.map_eq_flatMap
theorem CS{E:Env}{ρ:Operand->Value}{t:TypeId}{m k v:Operand}:aop E ρ h (.insert t m k v)=gp (ey E h t (ρ m) (ρ k) (ρ v)):=rfl
def rL(okW okF okT okX:Bool):Int:=if okW=true then(if okF=true then(if okT=true then(if okX=true then 0 else 19)else 18)else 17)else 16
theorem firstS_sf:re (sfRs b1 bq okW okF okT okX)=rL okW okF okT okX:=by cases okW<;>cases okF<;>cases okT<;>cases okX<;>rfl
def sfP(N:Nat)(l:List Int)(R Q:Nat->List Int)(a:List Int)(way:Int)(w:Nat):List Int:=if way=5 then(zO N).map (fun(v:Nat)=>iF N l.length R Q v w a)else []
theorem Ef(h:rL okW okF okT okX=0):okW=true/\okF=true/\okT=true/\okX=true:=by cases okW<;>cases okF<;>cases okT<;>cases okX<;>first|exact⟨rfl,rfl,rfl,rfl⟩|(exact absurd h (by decide))
theorem DO(a:OZ h0):aT zM 54 [ptrTo bq] h0 (.tuple #[.slice none 0 0,.slice none 0 0]):=by have S:=Si a;refine aa (n:=4) (rs:=[.tmp 2,.tmp 3]) rfl Tryz.e54 rfl rfl rfl (lbt rfl) ?_;simp only [BZ,ab,seval];exact S.gr
theorem Eb(B:OZ h0){C D j:Value}{way a:Int}(d:Row h0 bq (sfC C D pn j way s w a) 1)(t:TabAt h0 m j N l R Q)(k: ∀i,i<l.length->(R i).length=N)(p: ∀i,i<l.length->(Q i).length=N)(E:l.length<=16)(M:N<=100)(O:s<N)(F:w<N):
 Ret zM 55 [ptrTo bq] h0 fun r h'=>Gr h0 h'/\ ∃e f,r=.tuple #[e,f]/\az h' 1 bO e (gK N l.length R Q s w a)/\az h' 1 (encI .i64) f ((zO N).map fun(v:Nat)=>iF N l.length R Q v w ((gK N l.length R Q s w a).map fun(x:Nat)=>(x:Int)))/\ ∀c,(av e c\/av f c)->h0.n<=c:=by
 have S:=Si B;have P:Fl j:=by obtain⟨b,_,_,_,rfl,_⟩:=t.ex;exact bH
 have u:=d.load1 (o:=3) rfl;have G:=d.load1 (o:=5) rfl;have y:=d.load1 (o:=6) rfl;have H:=d.load1 (o:=7) rfl;refine aa (n:=36) (rs:=[.tmp 2,.tmp 3]) rfl Tryz.e55 rfl rfl rfl (lbt rfl) ?_;simp only [BZ];refine ar (aw rfl) (q:=0) (ps:=[]) (by kernel_rfl) ?_;simp only [BZ,cls,u,G,y,H,seval];refine bQ (tD S.ok t k p E) ?_;rintro e h ⟨g,z,I⟩;replace S:=S.call g;have T:(gK N l.length R Q s w a).length<=16:=by unfold gK;rw [XM];omega
 have U:=g.n;simp only [BZ,cls,seval];refine ar (aw rfl) (q:=0) (ps:=[]) (by kernel_rfl) ?_;simp only [BZ,cls,g.load u,g.load y,seval];refine bQ (bPi_ok S.ok (t.gr g) k p (by omega) (by omega) (yh z) (by rw [Xp];omega) F) ?_;rintro f V ⟨A,J,K⟩;replace S:=S.call A;simp only [BZ,cls,ab,seval];exact⟨S.gr,_,_,rfl,z.gr A,J,fun c L=>L.elim (I c) (fun h=>by have:=K c h;omega)⟩
theorem yC  (ok:OZ h0) {bp nd:Nat}  (af:Good γ) (hn:aX h0 nb (ptrTo bp) γ) {pt pc pf:Value}   (T:TabQ h0 pt nd l R Q) (hl:l.length<=16) (fc:Fl pc) (ff:Fl pf) {p:Bool} (F: ∀h,Gr h0 h->aT zM 42 [ptrTo bp,pc,pf] h (.bool p))
 {mb fp fb W Z:Nat} {m:List Int} {cf:Nat->Nat} {Bt:Nat->Nat} (P:p=true->gJ h0 mb pc γ.nodes m cf/\pf=ptrTo fp/\fG h0 fp fb W γ.arcs.length Z Bt/\W<=100/\Z=(γ.arcs.length+7)/8/\ ∀v,v<γ.nodes->cf v<W) {way f a:Int}:
 Ret zM 14 [ptrTo bp,pt,.agg ⟨[pc,pf]⟩,.agg ⟨[.int .i64 way,.int .i64 f,.int .i64 t,.int .i64 a]⟩] h0 fun r h'=>Gr h0 h'/\ ∃c d vA vB vE,r=.tuple #[mH c d vA vB,vE]/\(∀x,(av vA x\/av vB x\/av vE x)->h0.n<=x)/\
  (((rL (decide (way=4\/way=5)) (decide (0<=f/\f<γ.nodes)) (decide (0<=t/\t<γ.nodes)) (jw p way l.length nd γ.nodes)≠0\/f=t)/\c=rL (decide (way=4\/way=5)) (decide (0<=f/\f<γ.nodes)) (decide (0<=t/\t<γ.nodes)) (jw p way l.length nd γ.nodes)/\d=0/\vA=.slice none 0 0/\vB=.slice none 0 0/\vE=.slice none 0 0)\/
   (rL (decide (way=4\/way=5)) (decide (0<=f/\f<γ.nodes)) (decide (0<=t/\t<γ.nodes)) (jw p way l.length nd γ.nodes)=0/\ ∃(s w:Nat) (M:Fd),f=s/\t=w/\s≠w/\s<γ.nodes/\w<γ.nodes/\
     Ends γ.arcs (alF ((zO γ.arcs.length).map (gQ Bt Z (cf w)))) (piF (sfP γ.nodes l R Q ((gK γ.nodes l.length R Q f t a).map fun(x:Nat)=>(x:Int)) way w)) w (lW (piF (sfP γ.nodes l R Q ((gK γ.nodes l.length R Q f t a).map fun(x:Nat)=>(x:Int)) way w)) s) M/\
     az h' 4 iU vE M.ev/\
     ((FAR<=M.dist/\c=20/\d=0/\vA=.slice none 0 0/\vB=.slice none 0 0)\/
      (M.dist<FAR/\c=0/\d=(M.dist:Nat)/\az h' 1 bO vA M.arcs/\az h' 1 bO vB (if way=5 then gK γ.nodes l.length R Q f t a else []))))):=by
 have S:=Si ok;have da:=gX;have To:=T.tabO (by omega);have ft:Fl pt:=To.fl;have n1:=af.n1;have n2:=af.n2;have cX:=af.many;obtain⟨cc,N⟩: ∃cc,rL (decide (way=4\/way=5)) (decide (0<=f/\f<γ.nodes)) (decide (0<=t/\t<γ.nodes)) (jw p way l.length nd γ.nodes)=cc:=⟨_,rfl⟩;refine aa (n:=84) (rs:=[.cell 8 43,.cell 9 44]) rfl Tryz.e14 rfl rfl rfl (lbt rfl) ?_;simp only [BZ,seval];refine ae (bA (by intro x e;cases e)) S ?_;clear S;intro h b6 S cY;simp only [ag]at S;simp only [BZ,if_false,seval];refine ae (bA (by intro x e;cases e)) S ?_;clear S;intro h b7 S c0;simp only [ag]at S;simp only [BZ];refine ae aA S ?_;clear S;intro h A S c3;simp only [BZ];refine ae aA S ?_;clear S;intro h B S c4;simp only [BZ,ft,Xx,XU,XR,S.lds (b:=b6) (o:=0) (n:=2) m3 (lbt rfl),S.lds (b:=b7) (o:=0) (n:=4) m2 (lbt rfl),seval];refine ae (bA (by intro x e;cases e)) S ?_;clear S;intro h E S bY;simp only [ag]at S;have Rq:Row h E (sfC pc pf (ptrTo bp) pt way f t a) 1:=S.row (b:=E) m0;have gq:=S.gr;have dc:=S.ok;have R6:=S.row (b:=b6) m4;have R7:=S.row (b:=b7) m3;have R8:=S.row (b:=A) m2;have R9:=S.row (b:=B) m1;have b0:B≠A/\(b7≠A/\b7≠B)/\(b6≠A/\b6≠B)/\E≠A/\E≠B:=by have ap:=S.apart;simp [keys]at ap;omega
 obtain⟨D,n7,n6,nq⟩:=b0;rename Hp=>hq;simp only [BZ,seval];refine step_ret (looks_ok S.ok) ?_;rintro r O ⟨g,b1,rfl,dd,y1⟩;have gA:=gq.trans g;replace Rq:=Rq.gr g;replace R6:=R6.gr g;replace R7:=R7.gr g;replace R8:=R8.gr g;replace R9:=R9.gr g;have ai:=gA.ok;clear S;have S:=Si ai;have a3:=hn.gr gA;have b2:=(T.gr gA).tabO (show l.length<1000 by omega);have FA: ∀h,Gr O h->aT zM 42 [ptrTo bp,pc,pf] h (.bool p):=fun h g=>F h (gA.trans g);have s1:=sfNet_ok Rq y1;have s2:=sfWay_ok Rq y1;have s3:=sfFrom_ok a3 Rq y1;have s4:=sfTo_ok a3 Rq y1;have s5:=sfFits_ok a3 b2 Rq fc ff FA;have it:=looks1_it ai y1 (okW:=decide (way=4\/way=5)) (okF:=decide (0<=f/\f<γ.nodes)) (okT:=decide (0<=t/\t<γ.nodes)) (okX:=jw p way l.length nd γ.nodes);have e0:=firstS_sf (b1:=b1) (bq:=E) (okW:=decide (way=4\/way=5)) (okF:=decide (0<=f/\f<γ.nodes)) (okT:=decide (0<=t/\t<γ.nodes)) (okX:=jw p way l.length nd γ.nodes);have bw: ∀r∈sfRs b1 E (decide (way=4\/way=5)) (decide (0<=f/\f<γ.nodes)) (decide (0<=t/\t<γ.nodes)) (jw p way l.length nd γ.nodes),∀h,Gr O h->aT zM r.g (r.pre.toList++r.post.toList) h (.bool r.ok):=by
  intro r hr;simp only [sfRs,Xo,Xk,or_false]at hr;rcases hr with rfl|rfl|rfl|rfl|rfl
  . exact s1
  . exact s2
  . exact s3
  . exact s4
  . exact s5
 clear s1 s2 s3 s4 s5;generalize b3:sfRs b1 E (decide (way=4\/way=5)) (decide (0<=f/\f<γ.nodes)) (decide (0<=t/\t<γ.nodes)) (jw p way l.length nd γ.nodes)=rs at it e0 bw;rw [N]at e0;have k8:=R8.lt ai;have k9:=R9.lt ai;simp only [BZ];refine iD S (g:=141) (a:=#[]) (b:=#[ptrTo b1]) (by simp [bG,aD,an]) rfl rfl ?_;intro h2 G lb S' de dj g2;obtain⟨X,hX,S'⟩: ∃X:gu,X=_/\St NoM O h2 [(lb,.loop X),(G,.dfr)] []:=⟨_,rfl,S'⟩;have hJ :Yld zM lb (fun k h' F=>St NoM O h' [(lb,.loop X),(G,.dfr)] []/\(∀q∈rs.take k,q.ok=true)/\F=keys [(lb,Ob.loop X),(G,.dfr)] [])
  (fun o h'=>o=.ret (.bool false)/\ ∃(Y:gu),cc≠0/\Y.st=2/\Y.pending=some .ret/\St (· ∈[B,A]) O h' [(lb,.loop Y),(G,.dfr),(B,.row [.slice none 0 0] 1),(A,.row [.int .i64 cc,.int .i64 0,.slice none 0 0,.slice none 0 0] 1)] []) (rs.map argS):=by
  refine⟨?_,?_,?_,?_⟩
  . rintro i h F ⟨S,_,rfl⟩;exact⟨S.ok,fun b I=>S.key_lt I⟩
  . rintro i h F h' ⟨S,a,rfl⟩ gg;exact⟨S.call gg,a,rfl⟩
  . rintro h h' ⟨a,Y,e1,e2,e3,S⟩ gg;exact⟨a,Y,e1,e2,e3,S.call gg⟩
  . rintro i x hR F hx ⟨S,ha,rfl⟩;have ak:i<rs.length:=(by have:=(List.getElem?_eq_some_iff.1 hx).1;simpa using this);rw [Xm,Xc ak]at hx;cases hx;have a4:=bw _ (Xh ak);have tk:rs.take (i+1)=rs.take i++[rs[i]]:=Xe ak;have a5:rs[i]? =some rs[i]:=Xc ak;generalize rs[i]=r at a4 tk a5;obtain⟨rg,c5,b4,b5,a6⟩:=r;simp only []at a4;subst hX;refine iB (S.get m0) (by rw [Tryz.e14];rfl) rfl ?_;have S0:=S;replace S:=S.base;simp only [BZ,seval];refine ib S (i:=0) rfl rfl rfl rfl rfl ?_;clear S;intro h S;simp only [LC]at S;simp only [BZ,seval];have ca:Gr O h:=(S0.rebase S).gr;refine am (a4 _ ca) ?_;intro h3 g3;replace S:=S.call g3;cases b5 with
    | true=>
      simp only [BZ,seval];refine d6 S (i:=0) rfl ?_;clear S;intro h S;simp only [LC]at S;refine .inl ⟨rfl,_,⟨S0.rebase S,?_,rfl⟩,S.fr,S.key_new⟩;intro q hq;rw [tk]at hq;rcases List.mem_append.1 hq with hq|hq
      . exact ha q hq
      . rw [List.mem_singleton.1 hq]
    | false=>
      have ec:cc=a6:=(by rw [<-e0];exact firstS_at a5 ha Bool.false_ne_true);have V:cc≠0:=(by rw [ec];have hm:=List.mem_of_getElem? a5;rw [<-b3]at hm;simp only [sfRs,Xo,Xk,or_false,Rs.mk.injEq]at hm;rcases hm with⟨_,_,_,_,rfl⟩|⟨_,_,_,_,rfl⟩|⟨_,_,_,_,rfl⟩|⟨_,_,_,_,rfl⟩|⟨_,_,_,_,rfl⟩<;>decide);have U:=S0.rebase S;have gU:=U.gr;have a7:=R8.gr gU;have a8:=R9.gr gU;have ks: ∀c∈keys [(lb,Ob.loop _),(G,Ob.dfr)] [],O.n<=c:=fun c j=>(U.key_own j).elim (fun h=>h) (fun h=>h.elim);have U2:=((U.mono (M':=(· ∈[B,A])) (fun _ h=>h.elim)).push (b:=A) (o:=.row _ 1) (.inr (by simp)) a7 (fun h=>by have:=ks _ h;omega)).push (b:=B) (o:=.row _ 1) (.inr (by simp)) a8 (fun h=>by
       rcases List.mem_cons.1 h with h|h
       . have ap:B≠A:=D;exact ap h
       . have:=ks _ h;omega)
      clear S U;have S:=U2;clear U2;rw [<-ec];simp only [BZ,seval];refine aE (S.store (i:=1) rfl Tryz.t43.2.1 (by intro x e;cases e) rfl rfl (lbt rfl) ono) ?_;clear S;rintro h ⟨S,_⟩;simp only [LC,ag,lay,Xi,Xj,seval]at S;simp only [BZ,seval];refine aE (aF S (i:=0) rfl Tryz.t44.2.2.1 aW (Xf (lbt rfl)) ono) ?_;clear S;rintro h ⟨S,_⟩;simp only [LC]at S;simp only [BZ];refine round_ret S (i:=2) rfl ?_;clear S;intro h S;simp only [LC]at S;exact .inr (.inl ⟨rfl,⟨rfl,_,V,rfl,rfl,S.permL (XB (l₁:=[_,_]) (l₂:=[_,_]))⟩,S.ok⟩)
 have bx: ∀(b:Nat),b∈keys [(lb,Ob.loop X),(G,.dfr)] []-> ¬(b<O.n/\b=b1):=fun b I h=>(S'.key_own I).elim (fun h1=>by omega) (fun h=>h.elim);refine cR (it lb _ _ (fun v h hz=>by cases hz.1) hJ h2 _ ?_ ⟨S',by simp,rfl⟩) fun o rc h' y=>?_
 . exact⟨S'.ok,S'.fr.n,fun b I hd=>g2.get b I,bx,fun b I=>S'.key_lt I⟩
 . obtain ⟨_,⟨u,F',rfl,U,ha,rfl⟩|⟨u,rfl,hz,Y,V,st,pe,U⟩|⟨w,rfl,hz,_⟩⟩:=y
   . rw [Xp,Xn]at ha;have ba:cc=0:=(by rw [<-e0];exact EW ha);subst hX;refine⟨_,U.get m0,XE,?_⟩;replace U:=U.dead;show Run _ _ _ _ _ _ _ _;have gU:=U.gr;have a7:=R8.gr gU;have a8:=R9.gr gU;have ks: ∀c∈keys [(G,Ob.dfr)] [],O.n<=c:=fun c j=>(U.key_own j).elim (fun h=>h) (fun h=>h.elim);have U2:=((U.mono (M':=(· ∈[B,A])) (fun _ h=>h.elim)).push (b:=A) (o:=.row _ 1) (.inr (by simp)) a7 (fun h=>by have:=ks _ h;omega)).push (b:=B) (o:=.row _ 1) (.inr (by simp)) a8 (fun h=>by
      rcases List.mem_cons.1 h with h|h
      . exact D h
      . have:=ks _ h;omega)
     have S:=U2.permL (L':=[(G,.dfr),(B,_),(A,_)]) (XB (l₁:=[_]) (l₂:=[_,_]));clear U U2 R8 R9 hJ it bx;have al: ∀{x:Hp},Mo (· ∈[B,A]) O x->Gr h0 x:=fun f=>(gA.fr.trans f (fun c j=>.inr (by simp only [Xo,Xk,or_false]at j;omega)):Mo NoM h0 _).gr;have ax: ∀{x:Hp} {b:Nat} {l:List Value},Mo (· ∈[B,A]) O x->Row O b l 1->b≠A/\b≠B->Row x b l 1:=fun {x b l} f r e=>f.has (b:=b) (o:=.row l 1) r (by simp [e.1,e.2]);have ay:=(R7.gr gU).load1 (o:=1) rfl;have aL:=(R7.gr gU).load1 (o:=2) rfl;by_cases bb:f=t
     . subst bb;simp only [BZ,ay,aL,seval];refine aE (S.store (i:=2) rfl Tryz.t43.2.1 (by intro x e;cases e) rfl rfl (lbt rfl) ono) ?_;clear S;rintro h3 ⟨S,_⟩;simp only [LC,ag,lay,Xi,Xj,seval]at S;simp only [BZ,seval];refine aE (aF S (i:=1) rfl Tryz.t44.2.2.1 aW (Xf (lbt rfl)) ono) ?_;clear S;rintro h4 ⟨S,_⟩;simp only [LC]at S;simp only [BZ];refine dz (ir [G] _ (L:=[(B,_),(A,_)]) S.base fun h5 H=>?_);refine⟨rfl,(bF (by decide) (by simp only [aC,an,seval];exact bD Tryz.t43.1 Tryz.t43.2.1 (H.lds (b:=A) (o:=0) (n:=4) m1 (lbt rfl)))).2 ((bF (by decide) (by simp only [aC,an,seval];exact kY Tryz.t44.2.1 (H.ld (b:=B) (o:=0) m0 rfl))).2 (cg.2 ?_))⟩;have gZ:Gr h0 h5:=(gA.fr.trans (S.rebase H).fr (fun c j=>.inr (by simp only [Xo,Xk,or_false]at j;omega)):Mo NoM h0 h5).gr;exact⟨gZ,_,_,_,_,_,rfl,fun x hx=>(by rcases hx with h|h|h<;>exact h.elim),.inl ⟨.inr trivial,by rw [N,ba],rfl,rfl,rfl,rfl⟩⟩
     . obtain⟨w1,w2,w3,w4⟩:=Ef (N.trans ba);have w1:=of_decide_eq_true w1;have w2:=of_decide_eq_true w2;have w3:=of_decide_eq_true w3;obtain⟨s,rfl⟩:=Xq w2.1;obtain⟨w,rfl⟩:=Xq w3.1;have hs:s<γ.nodes:=(by omega);have hw:w<γ.nodes:=(by omega);have bc:s≠w:=fun e=>bb (by rw [e]);unfold jw at w4;rw [Bool.and_eq_true]at w4;obtain⟨cb,ch,bm,bd,be,cj⟩:=P w4.1;subst ch;simp only [BZ,ay,aL,bb,seval];refine ae oq S ?_;clear S;intro h mm S c6;simp only [BZ,CS,seval];refine aE (S.mputI (i:=0) rfl Tryz.t118.1 Tryz.t3.1 nJ _) ?_;clear S;rintro h3 ⟨bB,dm,c1,M1,S⟩;simp only [LC]at S;simp only [BZ,CS,seval];refine aE (S.mputI (i:=0) rfl Tryz.t118.1 Tryz.t3.1 M1 _) ?_;clear S bB;rintro h3 ⟨bB,ck,c2,M2,S⟩;simp only [LC]at S;have cl:h3.get mm=some (.map ck c2):=(S.own _ m0).2;have cm:=(ax S.fr R7 n7).load1 (o:=0) rfl;have lk:=lG (x:=way) Tryz.t118.1 Tryz.t3.1 (z:=.nilFunc) (by kernel_rfl) cl M2;replace S:=S.drop1;have cn:=al S.fr;have dn:=S.fr.n;have c9:G<h3.n:=S.key_lt (b:=G) (by simp [keys]);have bL:=S.ok;have cp:=ax S.fr Rq nq;have J: ∃gq:FuncId,dC zM h3 118 (.map (some mm)) (.int .i64 way) false=some (.func (.func gq) #[ptrTo E] #[])/\Ret zM gq [ptrTo E] h3 fun r h'=>Gr h3 h'/\ ∃vB vP,r=.tuple #[vB,vP]/\az h' 1 bO vB (if way=5 then gK γ.nodes l.length R Q s w a else [])/\az h' 1 (encI .i64) vP (sfP γ.nodes l R Q ((gK γ.nodes l.length R Q s w a).map fun(x:Nat)=>(x:Int)) way w)/\ ∀c,(av vB c\/av vP c)->h3.n<=c:=by
        rcases w1 with rfl|rfl
        . refine⟨_,lk,(DO bL).mono fun r h' ⟨e,g⟩=>⟨g,_,_,e,.inl ⟨rfl,rfl⟩,.inl ⟨rfl,rfl⟩,fun c j=>j.elim (fun h=>h.elim) (fun h=>h.elim)⟩⟩
        . have w5:=w4.2;simp only [ne_eq,not_true_eq_false,decide_false,Bool.false_or,decide_eq_true_eq]at w5;obtain⟨cr,cs⟩:=w5;subst cs;obtain⟨m',t',lR,lQ⟩: ∃m',TabAt h0 m' pt γ.nodes l R Q/\(∀i,i<l.length->(R i).length=γ.nodes)/\ ∀i,i<l.length->(Q i).length=γ.nodes:=by
           rcases T with h|⟨_,_,rfl⟩
           . exact h
           . simp at cr
          exact⟨_,lk,Eb bL cp (t'.gr cn) lR lQ hl (by omega) hs hw⟩
       obtain⟨gq,cv,J⟩:=J;simp only [BZ,cm,cv,seval];refine step_ret J ?_;rintro r h4 ⟨g4,vB,vP,rfl,sB,sP,bP⟩;replace S:=S.call g4;have ds:=g4.n;have cx:=S.fr.n;simp only [BZ,seval];have bf:=al S.fr;have bh:=S.ok;have bi:=ax S.fr R7 n7;have bk:=ax S.fr R6 n6;have p7:=bi.lt bh;have p6:=bk.lt bh;have ay:=bi.load1 (o:=1) rfl;have aL:=bi.load1 (o:=2) rfl;have cz:=bk.load1 (o:=0) rfl;have cA:=bk.load1 (o:=1) rfl;have S0:=S;clear S;have S:=Si bh;rename Hp=>hR;refine ar (gG (ord:=[19,0,1,2,3,4,5,6,7,8,9,10,11,12,13,14,15,16,17,18,20,21]) rfl rfl (by simp only [dE,kJ,dR,XO,XP,List.map_toArray,XA,XD,cond_true,cond_false,seval];exact rfl)) (q:=1) (ps:=[(0,16),(5,13),(3,13),(0,13),(7,12),(5,12),(3,12),(0,12)]) (by kernel_rfl) ?_;simp only [BZ,cls,seval];refine cL aA S ?_;clear S;intro h K S cI bn;have cN:=(S.row (b:=K) m0).lt S.ok;have gB:=S.gr;have nB:=gB.n;simp only [BZ,cls,gB.load ay,gB.load aL,gB.load cz,gB.load cA,seval];refine bg (uM S.ok ((cb.gr bf).gr gB) hw) ?_;intro h g;have e1:=ah g (show b6<_ by omega);have e2:=ah g (show b7<_ by omega);have e3:=ah g cN;have dt:=g.n;replace S:=S.call g;simp only [BZ,cls,seval];refine bQ (allowF_ok S.ok ((bm.gr bf).gr S.gr) (cj w hw) bd (by omega) be) ?_;rintro r h ⟨ac,bl,rfl,RA,nA⟩;have e4:=ah ac (show b6<_ by omega);have e5:=ah ac (show b7<_ by omega);have e6:=ah ac (show K<_ by omega);have dv:=ac.n;replace S:=S.call ac;have cO:=slB_of RA;simp only [BZ,cls,sP.fl,seval];refine bQ (tR S.ok af ((hn.gr bf).gr S.gr) hs hw cO (.inr (by simp)) (sP.gr S.gr) (by unfold sfP;split;exact .inr (by simp);exact .inl rfl)) ?_;rintro r h ⟨a0,v,M,rfl,⟨xA,xE,rfl,G1,G2,d1,d2⟩,he⟩;have e7:=ah a0 (show b6<_ by omega);have e8:=ah a0 (show b7<_ by omega);have e9:=ah a0 (show K<_ by omega);have bo:Fl xA:=G1.fl;have br:Fl xE:=G2.fl;replace S:=S.call a0;simp only [BZ,cls,seval];refine cM (S.store (i:=0) rfl Tryz.t96.2.1 (by intro x e;cases e) rfl (by simp only [ag,Xr,Xv,bo.2.1,br.2.1,Xb];rfl) (lbt rfl) ono) ?_;have a2: ∀c,av xA c\/av xE c->c≠K:=fun c j e=>(by have h1:_<=c:=j.elim (fun h=>(d1 c h).1) (fun h=>d2 c h);omega);clear S;rintro a1 ⟨S,mo⟩;simp only [LC,ag,lay,Xi,Xj,seval]at S;simp only [BZ,cls,seval];refine⟨by simp only [aK,aO,aH,aQ,aJ,ne_eq,not_false_eq_true,aS,bz,aN,aM,bG,bS,aC,Xb,an,gY,aq e1,ao e1,aq e2,ao e2,aq e3,ao e3,aq e4,ao e4,aq e5,ao e5,aq e6,ao e6,aq e7,ao e7,aq e8,ao e8,aq e9,ao e9,<-bn,seval],?_⟩;have bs:=S.row (b:=K) m0;have cT:az a1 1 bO xA M.arcs:=(G1.sl rfl dr (by decide)).mo mo (fun c j e=>a2 c (.inl j) e);have bT:az a1 4 iU xE M.ev:=(G2.sl rfl rx (by decide)).mo mo (fun c j e=>a2 c (.inr j) e);have cW:=sB.gr S.gr;have j0:=bs.load1 (o:=0) rfl;have j1:=bs.load1 (o:=1) rfl;have j2:=bs.load1 (o:=2) rfl;have S1:=S0.call S.gr;have C:K≠A/\K≠B:=⟨fun e=>by omega,fun e=>by omega⟩;clear S;have S:=S1;clear S1;have dx:G<hR.n:=S0.key_lt (b:=G) (by simp [keys]);have dy:O.n<=hR.n:=S0.fr.n;have dF:=gA.n;have bX:=(he.resolve_left (fun h=>bc h.1)).2;have V:=N.trans ba;by_cases hd:M.dist<FAR
       . have bt: ¬(72057594037927936:Int)<=(M.dist:Int):=(by omega);simp only [BZ,j0,bt,seval];refine ar (aw rfl) (q:=0) (ps:=[(7,8)]) (by kernel_rfl) ?_;simp only [BZ,cls,j0,j1,j2,bo,sB.fl,seval];refine cM (S.store (i:=2) rfl Tryz.t43.2.1 (by intro x e;cases e) rfl (by simp only [ag,Xr,Xv,bo.2.1,sB.fl.2.1,Xb];rfl) (lbt rfl) ono) ?_;clear S;rintro h5 ⟨S,bu⟩;simp only [LC,ag,lay,Xi,Xj,seval]at S;simp only [BZ,cls,seval];refine cM (aF S (i:=1) rfl Tryz.t44.2.2.1 br (Xf (lbt rfl)) ono) ?_;clear S;rintro h6 ⟨S,bv⟩;simp only [LC]at S;simp only [BZ,seval];refine⟨by simp only [aK,aO,aH,aQ,aJ,ne_eq,not_false_eq_true,aS,bz,aN,aM,bG,bS,aC,Xb,an,gY,dh C.1,dh C.1.symm,dh C.2,dh C.2.symm,dh D,dh D.symm,seval],?_⟩;refine dz (ir [G] _ (L:=[(B,_),(A,_)]) S.base fun h7 H=>?_);refine⟨rfl,(bF (by decide) (by simp only [aC,an,seval];exact bD Tryz.t43.1 Tryz.t43.2.1 (H.lds (b:=A) (o:=0) (n:=4) m1 (lbt rfl)))).2 ((bF (by decide) (by simp only [aC,an,seval];exact kY Tryz.t44.2.1 (H.ld (b:=B) (o:=0) m0 rfl))).2 (cg.2 ?_))⟩;have gZ:=al (S.rebase H).fr;have bE: ∀{α:Type} {k:Nat} {ad:α->List Value} {u:Value} {xs:List α},az a1 k ad u xs->(∀c,av u c->c≠A/\c≠B/\c≠G)->az h7 k ad u xs:=fun s I=>((s.mo bu (fun c j e=>(I c j).1 e)).mo bv (fun c j e=>(I c j).2.1 e)).mo H.fr (fun c j hm=>by
          have:=I c j;simp [keys]at hm;omega)
         have zE:=bE bT (fun c j=>by have:=d2 c j;exact⟨by omega,by omega,by omega⟩);have zA:=bE cT (fun c j=>by have:=(d1 c j).1;exact⟨by omega,by omega,by omega⟩);have zB:=bE cW (fun c j=>by have:=bP c (.inl j);have:=cx;exact⟨by omega,by omega,fun e=>by omega⟩);exact⟨gZ,_,_,_,_,_,rfl,fun x hx=>(by rcases hx with h|h|h;(have:=(d1 x h).1;omega);(have:=bP x (.inl h);omega);(have:=d2 x h;omega)),.inr ⟨V,s,w,M,rfl,rfl,bc,hs,hw,bX,zE,.inr ⟨hd,rfl,rfl,zA,zB⟩⟩⟩
       . have bt:(72057594037927936:Int)<=(M.dist:Int):=(by omega);simp only [BZ,j0,bt,seval];refine ar (aw rfl) (q:=0) (ps:=[(2,3)]) (by kernel_rfl) ?_;simp only [BZ,cls,j2,seval];refine cM (S.store (i:=2) rfl Tryz.t43.2.1 (by intro x e;cases e) rfl (rfl) (lbt rfl) ono) ?_;clear S;rintro h5 ⟨S,bu⟩;simp only [LC,ag,lay,Xi,Xj,seval]at S;simp only [BZ,cls,seval];refine cM (aF S (i:=1) rfl Tryz.t44.2.2.1 br (Xf (lbt rfl)) ono) ?_;clear S;rintro h6 ⟨S,bv⟩;simp only [LC]at S;simp only [BZ,seval];refine⟨by simp only [aK,aO,aH,aQ,aJ,ne_eq,not_false_eq_true,aS,bz,aN,aM,bG,bS,aC,Xb,an,gY,dh C.1,dh C.1.symm,dh C.2,dh C.2.symm,dh D,dh D.symm,seval],?_⟩;refine dz (ir [G] _ (L:=[(B,_),(A,_)]) S.base fun h7 H=>?_);refine⟨rfl,(bF (by decide) (by simp only [aC,an,seval];exact bD Tryz.t43.1 Tryz.t43.2.1 (H.lds (b:=A) (o:=0) (n:=4) m1 (lbt rfl)))).2 ((bF (by decide) (by simp only [aC,an,seval];exact kY Tryz.t44.2.1 (H.ld (b:=B) (o:=0) m0 rfl))).2 (cg.2 ?_))⟩;have gZ:=al (S.rebase H).fr;have bE: ∀{α:Type} {k:Nat} {ad:α->List Value} {u:Value} {xs:List α},az a1 k ad u xs->(∀c,av u c->c≠A/\c≠B/\c≠G)->az h7 k ad u xs:=fun s I=>((s.mo bu (fun c j e=>(I c j).1 e)).mo bv (fun c j e=>(I c j).2.1 e)).mo H.fr (fun c j hm=>by
          have:=I c j;simp [keys]at hm;omega)
         have zE:=bE bT (fun c j=>by have:=d2 c j;exact⟨by omega,by omega,by omega⟩);exact⟨gZ,_,_,_,_,_,rfl,fun x hx=>(by rcases hx with h|h|h;exact h.elim;exact h.elim;(have:=d2 x h;omega)),.inr ⟨V,s,w,M,rfl,rfl,bc,hs,hw,bX,zE,.inl ⟨by omega,rfl,rfl,rfl,rfl⟩⟩⟩
   . refine⟨Y,U.get m0,by rw [st];decide,?_⟩;rw [pe];replace U:=U.dead;show Run _ _ _ _ _ _ _ _;simp only [BZ];refine dz (ir [G] _ (L:=[(B,_),(A,_)]) U.base fun h5 H=>?_);refine⟨rfl,(bF (by decide) (by simp only [aC,an,seval];exact bD Tryz.t43.1 Tryz.t43.2.1 (H.lds (b:=A) (o:=0) (n:=4) m1 (lbt rfl)))).2 ((bF (by decide) (by simp only [aC,an,seval];exact kY Tryz.t44.2.1 (H.ld (b:=B) (o:=0) m0 rfl))).2 (cg.2 ?_))⟩;have gZ:Gr h0 h5:=(gA.fr.trans (U.rebase H).fr (fun c j=>.inr (by simp only [Xo,Xk,or_false]at j;omega)):Mo NoM h0 h5).gr;exact⟨gZ,_,_,_,_,_,rfl,fun x hx=>(by rcases hx with h|h|h<;>exact h.elim),.inl ⟨.inl (by rw [N];exact V),by rw [N],rfl,rfl,rfl,rfl⟩⟩
   . cases hz
theorem toR_len:(toR γ l i).length=γ.nodes:=by unfold toR;exact te _ _ _
theorem frR_len:(frR γ l i).length=γ.nodes:=by unfold frR;exact te _ _ _
theorem yI{l e:Nat}{m:List Int}{cf Bt:Nat->Nat}(b:Good γ)(o:aX h0 k (ptrTo i) γ)(c:gJ h0 l (ptrTo d) γ.nodes m cf)(f:gP m+1=((e:Nat):Int))(p:fG h0 j n e γ.arcs.length a Bt): ∀h,Gr h0 h->aT zM 42 [ptrTo i,ptrTo d,ptrTo j] h (.bool true):=by intro h g;have r:=b.n2;have q:=c.len;have:=wV g.ok (o.gr g) (.inr ⟨⟨_,c.at0.gr g⟩,f.symm⟩:mQ h (ptrTo d) m (e:Int)) (p.gr g).bits b.n1 (by omega);rw [q]at this;simpa using this
structure Rl where
 g:FuncId
 post:Array Value
 ok:Bool
 code:Int
def encR(r:Rl):List Value:=[.func (.func r.g) #[] r.post,.int .i64 r.code]
theorem encR_len(r:Rl):(encR r).length=2:=rfl
def qq:List Rl->Int
 | []=>0|r::l=>if r.ok=true then qq l else r.code
theorem C9{rs:List Rl}(a:i<rs.length):qq (rs.drop i)=if rs[i].ok=true then qq (rs.drop (i+1))else rs[i].code:=by rw [XL a];rfl
theorem DC  (q:OZ h0)  {rs:List Rl} (g:az h0 2 encR v rs) (C:rs.length<1000) (s: ∀i (t:i<rs.length),(∀j,j<i->(rs.getD j ⟨0,#[],false,0⟩).ok=true)-> ∀h,Gr h0 h->aT zM rs[i].g rs[i].post.toList h (.bool rs[i].ok)):
 aT zM 106 [v] h0 (.int .i64 (qq rs)):=by
 have S:=Si q;refine aa (n:=18) (rs:=[.tmp 2]) rfl Tryz.e106 rfl rfl rfl (lbt rfl) ?_;simp only [BZ,g.lenq,seval];refine bj (fun(i:Nat) d h=>i<=rs.length/\St NoM h0 h [] []/\qq rs=qq (rs.drop i)/\(∀j,j<i->(rs.getD j ⟨0,#[],false,0⟩).ok=true)/\d 5=v/\d 6=.int .i64 (rs.length:Nat)/\d 7=.int .i64 i) (fun i=>rs.length-i) ?_ 0 _ _ ?_
 . clear S;intro i u d h ⟨t,S,e,hb,r5,r6,r7⟩;have w:au .i64 ((i:Int)+1)=((i+1:Nat):Int):=(by rw [wrap64]<;>omega);by_cases hlt:i<rs.length
   . obtain⟨c,o,x,y⟩:=(g.gr S.gr).ix (kd:=.i64) encR_len hlt;have k:=s i hlt hb;have a:rs.getD i ⟨0,#[],false,0⟩=rs[i]:=(by rw [Xg,Xc hlt];rfl);rw [C9 hlt]at e;generalize rs[i]=r at k y e a;have l:=S.gr;have Sx:=S;replace S:=Si S.ok;simp only [BZ,r5,r6,r7,aG,hlt,x,y,encR,seval];refine ae aA S ?_;clear S;intro h m S p;simp only [BZ,seval];refine aE (S.store (i:=0) rfl ?_ ?_ rfl rfl ?_ ono) ?_
     . exact(by exact Tryz.t188.2.1)
     . exact(by intro x e;cases e)
     . exact lbt rfl
     clear S;rintro h ⟨S,z⟩;clear z;simp only [LC,ag,lay,Xi,Xj,seval]at S;simp only [BZ,S.ld (b:=m) (o:=0) m0 rfl,seval];refine am (k _ (l.trans S.gr)) ?_;intro D A;replace S:=S.call A;cases f:r.ok with
     | true=>
       rw [f,if_pos rfl]at e;simp only [BZ,r7,w,seval];exact u (i+1) _ _ (by omega) ⟨by omega,Sx.call S.gr,e,fun j B=>by
        rcases Nat.lt_or_ge j i with h|h
        . exact hb j h
        . rw [show j=i by omega,a];exact f,by simp [aD,r5,r6]⟩
     | false=>rw [f,if_neg Bool.false_ne_true]at e;simp only [BZ,ab,S.ld (b:=m) (o:=1) m0 rfl,seval];exact⟨by rw [e],l.trans S.gr⟩
   . simp only [BZ,ab,r6,r7,aG,hlt,seval];have:i=rs.length:=(by omega);subst this;rw [List.drop_length]at e;exact⟨by rw [e];rfl,S.gr⟩
 . exact⟨Xd _,S,rfl,fun j B=>by omega,by simp [aD,cK]⟩
theorem B7{f:Nat}{l:Nat}(c:aX hq l (ptrTo i) γ){v:Int}(a:hq.load b2 0 1=some [.int .i64 v])(b:hq.load f 0 1=some [ptrTo i]): ∀h,Gr hq h->aT zM 105 [ptrTo b2,ptrTo f] h (.bool (decide (0<=v/\v<γ.nodes))):=by
 intro h g;have S:=Si g.ok;have m:=bC g.ok (g.load a);have o:=bC g.ok (g.load b);refine aa (n:=11) (rs:=[.tmp 2]) rfl Tryz.e105 rfl rfl rfl (lbt rfl) ?_;simp only [BZ];refine ar (aw rfl) (q:=0) (ps:=[(3,5)]) (by kernel_rfl) ?_;by_cases d:0<=v
 . simp only [BZ,cls,g.load a,g.load b,d,seval];refine bg (bM S.ok ((c.gr g).gr S.gr)) ?_;intro p e;have j:=ah e m;have k:=ah e o;replace S:=S.call e;simp only [BZ,cls,ab,seval];refine⟨by simp only [aK,aO,aH,aQ,aJ,ne_eq,not_false_eq_true,aS,bz,aM,jv,bG,bS,aC,an,c8,jq,rH,Xb,ao j,aq j,ao k,aq k,seval],S.gr⟩
 . simp only [BZ,cls,ab,g.load a,g.load b,d,seval];refine⟨by simp only [aK,aO,aH,aQ,aJ,ne_eq,not_false_eq_true,aS,bz,aM,jv,bG,bS,aC,an,c8,jq,rH,Xb,seval],by simp [d],S.gr⟩
theorem node_ok(c:OZ h0){v:Int}:Ret zM 104 [.int .i64 v,ptrTo a] h0 fun r h'=>Gr h0 h'/\ ∃b2,r=.func (.func 105) #[] #[ptrTo b2,ptrTo a]/\h'.load b2 0 1=some [.int .i64 v]:=by have S:=Si c;refine aa (n:=5) (rs:=[.tmp 3]) rfl Tryz.e104 rfl rfl rfl (lbt rfl) ?_;simp only [BZ,seval];refine ae (bN (by exact aU)) S ?_;clear S;intro h b2 S b;simp only [BZ,ab,seval];exact⟨S.gr,b2,rfl,S.ld m0 rfl⟩
def isP:Value->Bool
 | .pointer none=>false|_=>true
theorem net2_ok(d:(∃b,p=ptrTo b)\/p=.pointer none)(c:hq.load a 0 1=some [p]): ∀h,Gr hq h->aT zM 107 [ptrTo a] h (.bool (isP p)):=by
 intro h g;have S:=Si g.ok;refine aa (n:=4) (rs:=[.tmp 1]) rfl Tryz.e107 rfl rfl rfl (lbt rfl) ?_;rcases d with⟨e,rfl⟩|rfl
 . simp only [BZ,ab,g.load c,seval];exact⟨rfl,S.gr⟩
 . simp only [BZ,ab,g.load c,seval];exact⟨rfl,S.gr⟩
theorem tab3_ok{o p:Nat}{s:Value}{B:Nat}(c:aX hq B (ptrTo o) γ)(T:TabO zM hq s p mk 41 40)(e:hq.load b4 0 1=some [s])(d:hq.load m 0 1=some [ptrTo o]): ∀h,Gr hq h->aT zM 108 [ptrTo b4,ptrTo m] h (.bool (decide (0<mk/\p=γ.nodes))):=by
 intro h g;have C:=T.fl;have S:=Si g.ok;have f:=bC g.ok (g.load e);have i:=bC g.ok (g.load d);refine aa (n:=14) (rs:=[.tmp 2]) rfl Tryz.e108 rfl rfl rfl (lbt rfl) ?_;simp only [BZ];refine ar (aw rfl) (q:=0) (ps:=[(6,7)]) (by kernel_rfl) ?_;simp only [BZ,cls,g.load e,g.load d,seval];refine bQ (T.marks _ (g.trans S.gr)) ?_;rintro r D ⟨a,l,t,E⟩;replace S:=S.call a;have u:=ah a f;have v:=ah a i;by_cases w:0<mk
 . have j:(0:Int)<(l.length:Int):=(by omega);simp only [BZ,cls,t.lenq,j,a.load (g.load e),a.load (g.load d),seval];refine bg (T.nodes _ (g.trans S.gr)) ?_;intro F b;have x:=ah b (Xa f a.n);have y:=ah b (Xa i a.n);replace S:=S.call b;simp only [BZ,cls,b.load (a.load (g.load d)),seval];refine bg (bM S.ok ((c.gr g).gr S.gr)) ?_;intro G k;have z:=ah k (Xa f (a.trans b).n);have A:=ah k (Xa i (a.trans b).n);replace S:=S.call k;simp only [BZ,cls,ab,seval];refine⟨by simp only [aK,aO,aH,aQ,aJ,ne_eq,not_false_eq_true,aS,bz,aN,aM,bG,bS,aC,Xb,an,c8,ao v,aq v,ao u,aq u,ao y,aq y,ao x,aq x,ao A,aq A,ao z,aq z,seval],?_⟩;exact⟨by simp [w,Int.ofNat_inj],S.gr⟩
 . have j: ¬(0:Int)<(l.length:Int):=(by omega);simp only [BZ,cls,ab,t.lenq,j,seval];refine⟨by simp only [aK,aO,aH,aQ,aJ,ne_eq,not_false_eq_true,jq,rH,Xb,seval],by simp [w],S.gr⟩
def yo(p:Value)(N a mk:Nat)(f t:Int):Int:=if isP p=true then jQ N a mk f t else 1
theorem TabO.gr{E:Env}{a:Value}{c d:FuncId}(T:TabO E h a b mk c d)(g:Gr h h'):TabO E h' a b mk c d:=⟨T.fl,fun x k=>T.marks x (g.trans k),fun x k=>T.nodes x (g.trans k)⟩
theorem firstC4{f:Int}{d e h:FuncId}{i j k l:Array Value}:qq [⟨d,i,isP p,1⟩,⟨e,j,decide (0<=f/\f<N),17⟩,⟨g,k,decide (0<=t/\t<N),18⟩,⟨h,l,decide (0<mk/\b=N),19⟩]=yo p N b mk f t:=by
 simp only [qq,yo,jQ,decide_eq_true_eq];cases isP p with
 |false=>rfl| true=>
   simp only [if_true];by_cases a:0<=f/\f<(N:Int)
   . by_cases c:0<=t/\t<(N:Int)
     . simp only [a,c,not_true_eq_false,if_false,and_self,if_true]
     . simp only [a,c,not_true_eq_false,not_false_eq_true,if_false,and_self,if_true]
   . simp only [a,not_false_eq_true,if_false,if_true]
theorem Dq(Z:OZ h0){J K:Value}{f a:Int}(fq:Fl K)(k:(∃j γ v,p=ptrTo j/\aX h0 v (ptrTo j) γ/\N=γ.nodes)\/p=.pointer none)(T:TabO zM h0 J z mk 41 40):
 aT zM 43 [p,J,.agg ⟨[K,.int .i64 f,.int .i64 t,.int .i64 a]⟩] h0 (.int .i64 (yo p N z mk f t)):=by
 have fp:Fl p:=by rcases k with⟨_,_,_,rfl,_⟩|rfl<;>exact bH
 have ft:=T.fl;have S:=Si Z;refine aa (n:=25) (rs:=[.tmp 6]) rfl Tryz.e43 rfl rfl rfl (lbt rfl) ?_;simp only [BZ,seval];refine ae (bN (by assumption)) S ?_;clear S;intro h l S L;simp only [BZ,if_false,seval];refine ae (bN (by assumption)) S ?_;clear S;intro h M S O;simp only [BZ,if_false,seval];refine ae (bA (by intro x e;cases e)) S ?_;clear S;intro h m S P;simp only [ag]at S;have Q:=S.gr;have A:=S.ok;have r3:=S.ld (b:=l) (o:=0) m2 rfl;have r4:=S.ld (b:=M) (o:=0) m1 rfl;have B:=S.ld (b:=m) (o:=1) m0 rfl;have C:=S.ld (b:=m) (o:=2) m0 rfl;have R:=(S.row (b:=m) m0).lt S.ok;clear S;rename Hp=>hq;have S:=Si A;simp only [BZ,seval];refine ar (aw rfl) (q:=16384) (ps:=[(5,9)]) (by kernel_rfl) ?_;simp only [BZ,cls,B,seval];refine bQ (node_ok S.ok) ?_;rintro v1 h ⟨g,x1,rfl,D⟩;have U:leaves _ _ m=true:=ah g R;have k1:=g.n;replace S:=S.call g;simp only [BZ,cls,g.load C,seval];clear g;refine bQ (node_ok S.ok) ?_;rintro v2 h ⟨g,x2,rfl,l2⟩;have V:leaves _ _ m=true:=ah g (Xa R k1);replace S:=S.call g;replace D:=g.load D;simp only [BZ,cls,seval];have w:=S.gr;have E:=S.ok;clear S g;rename Hp=>hA;have S:=Si E;refine cL (ce (by exact Tryz.t257.1) (by exact Tryz.e188E) (by decide) (by rfl)) S ?_;clear S;intro h W S X Y;simp only [LC,bJ,cq,ag,XF,Xw,Xt,XG,seval]at S;have r:=S.gr;have F:=S.ok;have d:=r.load (w.load r3);have G:=r.load (w.load r4);have H:=r.load D;have I:=r.load l2;have y:=(Q.trans w).trans r;simp only [BZ,cls,seval];refine bg (DC F (rs:=[⟨107,#[ptrTo l],isP p,1⟩,⟨105,#[ptrTo x1,ptrTo l],decide (0<=f/\f<N),17⟩,⟨105,#[ptrTo x2,ptrTo l],decide (0<=t/\t<N),18⟩,⟨108,#[ptrTo M,ptrTo l],decide (0<mk/\z=N),19⟩]) (.inr ⟨W,0,none,4,rfl,Xz _,S.lds (b:=W) (o:=0) (n:=4*2) m0 (lbt rfl)⟩) (by simp) (fun i hi=>?_)) ?_
 . have ac:i<4:=hi;rcases(by omega:i=0\/i=1\/i=2\/i=3)with rfl|rfl|rfl|rfl
   . intro _;refine net2_ok ?_ d;rcases k with⟨j,_,_,rfl,_⟩|rfl
     . exact .inl ⟨j,rfl⟩
     . exact .inr rfl
   . intro s;have u:isP p=true:=s 0 (by omega);rcases k with⟨j,γ,v,rfl,c,rfl⟩|rfl
     . exact B7 (c.gr y) H d
     . cases u
   . intro s;have u:isP p=true:=s 0 (by omega);rcases k with⟨j,γ,v,rfl,c,rfl⟩|rfl
     . exact B7 (c.gr y) I d
     . cases u
   . intro s;have u:isP p=true:=s 0 (by omega);rcases k with⟨j,γ,v,rfl,c,rfl⟩|rfl
     . exact tab3_ok (c.gr y) (T.gr y) G d
     . cases u
 . intro h g;rw [firstC4];replace S:=S.call g;simp only [BZ,cls,ab,seval];refine⟨by simp only [aK,aO,aH,aQ,aJ,ne_eq,not_false_eq_true,aS,bz,aN,aM,bG,bS,aC,Xb,an,aq U,ao U,aq V,ao V,seval],?_⟩;exact(Q.trans w).trans S.gr
theorem yG(ok:OZ h0){U D:Nat}(J:Good γ)(hn:aX h0 nb (ptrTo U) γ){V q0:Value}(T:TabQ h0 V D l R Q)(hl:l.length<=16)(fq:Fl q0){f a:Int}:
 Ret zM 11 [ptrTo U,V,.agg ⟨[q0,.int .i64 f,.int .i64 t,.int .i64 a]⟩] h0 fun r h'=>Gr h0 h'/\ ∃c d vA I vE,r=.tuple #[mH c d vA I,vE]/\(∀x,(av vA x\/av I x\/av vE x)->h0.n<=x)/\
  (((jQ γ.nodes D l.length f t≠0\/f=t)/\c=jQ γ.nodes D l.length f t/\d=0/\vA=.slice none 0 0/\I=.slice none 0 0/\vE=.slice none 0 0)\/
   (jQ γ.nodes D l.length f t=0/\f≠t/\ ∃(s w:Nat) (j:Fd),f=s/\t=w/\s<γ.nodes/\w<γ.nodes/\D=γ.nodes/\
     Ends γ.arcs (alF []) (piF ((zO γ.nodes).map fun(v:Nat)=>iF γ.nodes l.length R Q v w ((gK γ.nodes l.length R Q f t a).map fun(x:Nat)=>(x:Int)))) w (lW (piF ((zO γ.nodes).map fun(v:Nat)=>iF γ.nodes l.length R Q v w ((gK γ.nodes l.length R Q f t a).map fun(x:Nat)=>(x:Int)))) s) j/\
     az h' 4 iU vE j.ev/\
     ((FAR<=j.dist/\c=20/\d=0/\vA=.slice none 0 0/\I=.slice none 0 0)\/
      (j.dist<FAR/\c=0/\d=(j.dist:Nat)/\az h' 1 bO vA j.arcs/\az h' 1 bO I (gK γ.nodes l.length R Q f t a))))):=by
 have S:=Si ok;have ft:Fl V:=(T.tabO (by omega)).fl;refine aa (n:=64) (rs:=[.cell 6 43,.tmp 7]) rfl Tryz.e11 rfl rfl rfl (lbt rfl) ?_;simp only [BZ,seval];refine ae (bA (by intro x e;cases e)) S ?_;clear S;intro h B S a0;simp only [ag]at S;simp only [BZ];refine ae aA S ?_;clear S;intro h E S a1;simp only [BZ,Xx,XU,XR,S.lds (b:=B) (o:=0) (n:=4) m1 (lbt rfl),seval];refine am (Dq S.ok fq (.inl ⟨U,γ,nb,rfl,hn.gr S.gr,rfl⟩) ((T.gr S.gr).tabO (by omega)) (a:=a) (f:=f) (t:=t)) ?_;intro h g;have eW:yo (.pointer (some ⟨U,0,none⟩)) γ.nodes D l.length f t=jQ γ.nodes D l.length f t:=rfl;rw [eW];obtain⟨c,k⟩: ∃c,jQ γ.nodes D l.length f t=c:=⟨_,rfl⟩;rw [k];replace S:=S.call g;clear g;by_cases c0:c=0
 . subst c0;by_cases y:f=t
   . subst y;simp only [BZ,S.ld (b:=B) (o:=1) m1 rfl,S.ld (b:=B) (o:=2) m1 rfl,seval];refine aE (S.store (i:=0) rfl Tryz.t43.2.1 (by intro x e;cases e) rfl rfl (lbt rfl) ono) ?_;clear S;rintro W ⟨S,X⟩;simp only [LC,ag,lay,Xi,Xj,seval]at S;simp only [BZ,ab];refine(bF (by decide) (by simp only [aC,an,seval];exact bD Tryz.t43.1 Tryz.t43.2.1 (S.lds (b:=E) (o:=0) (n:=4) m0 (lbt rfl)))).2 ?_;refine(eo (by decide)).2 (cg.2 ?_);exact⟨S.gr,_,_,_,_,_,rfl,fun x h=>by rcases h with h|h|h<;>exact h.elim,.inl ⟨.inr trivial,rfl,rfl,rfl,rfl,rfl⟩⟩
   . obtain⟨ac,ad,af,ai⟩:=D8 k;obtain⟨s,rfl⟩:=Xq ac.1;obtain⟨w,rfl⟩:=Xq ad.1;have hs:s<γ.nodes:=(by omega);have Y:w<γ.nodes:=(by omega);have K:s≠w:=fun e=>y (by rw [e]);subst ai;obtain⟨m,t,lR,lQ⟩: ∃m,TabAt h0 m V γ.nodes l R Q/\(∀i,i<l.length->(R i).length=γ.nodes)/\ ∀i,i<l.length->(Q i).length=γ.nodes:=by
      rcases T with h|⟨_,_,rfl⟩
      . exact h
      . simp at af
     simp only [BZ,y,S.ld (b:=B) (o:=1) m1 rfl,S.ld (b:=B) (o:=2) m1 rfl,S.ld (b:=B) (o:=3) m1 rfl,seval];have k6:=(S.row (b:=E) m0).lt S.ok;have kB:=S.fr.n;refine step_ret (tD S.ok (t.gr S.gr) lR lQ hl) ?_;rintro I h ⟨g,Z,nB⟩;replace S:=S.call g;clear g;have la:(gK γ.nodes l.length R Q s w a).length<=16:=(by unfold gK;rw [XM];omega);have R5:=S.row (b:=B) m1;have R6:=S.row (b:=E) m0;have S0:=S;have gV:=S.gr;have p:=S.ok;have ak:=R5.load1 (o:=1) rfl;have al:=R5.load1 (o:=2) rfl;have p5:=R5.lt p;have f1:=J.n2;simp only [BZ,seval];clear S;have S:=Si p;rename Hp=>hV;refine ar (gG (ord:=[15,0,1,2,3,4,5,6,7,8,9,10,11,12,13,14,16,17]) rfl rfl (by simp only [dE,kJ,dR,XO,XP,List.map_toArray,XA,XD,cond_true,cond_false,seval];exact rfl)) (q:=1) (ps:=[(0,12),(5,10),(3,10),(0,10)]) (by kernel_rfl) ?_;simp only [BZ,cls,seval];refine cL aA S ?_;clear S;intro h u S ax G;have L:=S.fr.n;have gB:=S.gr;have z:=S.row (b:=u) m0;have M:=z.lt S.ok;simp only [BZ,cls,gB.load ak,gB.load al,seval];refine bQ (bPi_ok S.ok ((t.gr gV).gr gB) lR lQ (by omega) (by omega) (yh (Z.gr gB)) (by rw [Xp];omega) Y) ?_;rintro vP h ⟨g,sP,nP⟩;have e1:leaves _ _ B=true:=ah g (Xa p5 L);have e2:leaves _ _ u=true:=ah g M;have kq:=g.n;replace S:=S.call g;clear g;simp only [BZ,cls,sP.fl,seval];refine bQ (tR S.ok J ((hn.gr gV).gr S.gr) hs Y (als:=[]) (.inl ⟨rfl,rfl⟩) (.inl rfl) sP (.inr (by simp))) ?_;rintro r h ⟨g,v,j,rfl,⟨xA,N,rfl,G1,G2,d1,O⟩,he⟩;have e3:leaves _ _ B=true:=ah g (Xa p5 (Xl L kq));have e4:leaves _ _ u=true:=ah g (Xa M kq);have y1:Fl xA:=G1.fl;have y2:Fl N:=G2.fl;replace S:=S.call g;simp only [BZ,cls,seval];refine cM (S.store (i:=0) rfl Tryz.t96.2.1 (by intro x e;cases e) rfl (by simp only [ag,Xr,Xv,y1.2.1,y2.2.1,Xb];rfl) (lbt rfl) ono) ?_;have a2:=S.ok;have F: ∀c,av xA c\/av N c->c≠u:=fun c k e=>(by have:=S.fr.n;have h1:_<=c:=k.elim (fun h=>(d1 c h).1) (fun h=>O c h);omega);clear S;rintro W ⟨S,X⟩;simp only [LC,ag,lay,Xi,Xj,seval]at S;simp only [BZ,cls,seval];refine⟨by simp only [aK,aO,aH,aQ,aJ,ne_eq,not_false_eq_true,aS,bz,aN,aM,bG,bS,aC,Xb,an,gY,aq e1,ao e1,aq e2,ao e2,aq e3,ao e3,aq e4,ao e4,<-G,seval],?_⟩;have z:=S.row (b:=u) m0;have j0:=z.load1 (o:=0) rfl;have j1:=z.load1 (o:=1) rfl;have j2:=z.load1 (o:=2) rfl;have C:E≠u:=fun e=>(by have:=(S0.row (b:=E) m0).lt p;omega);have ay:az W 1 bO xA j.arcs:=(G1.sl rfl dr (by decide)).mo X (fun c k e=>F c (.inl k) e);have P:az W 4 iU N j.ev:=(G2.sl rfl rx (by decide)).mo X (fun c k e=>F c (.inr k) e);have aL:=Z.gr S.gr;have g3:=S.gr;have S1:=S0.call S.gr;clear S;have S:=S1;clear S1;have a3:=gX;by_cases hd:j.dist<FAR
     . have H: ¬(72057594037927936:Int)<=(j.dist:Int):=(by omega);simp only [BZ,j0,H,seval];refine ar (aw rfl) (q:=0) (ps:=[(7,8)]) (by kernel_rfl) ?_;simp only [BZ,cls,j0,j1,j2,y1,Z.fl,seval];refine cM (S.store (i:=0) rfl Tryz.t43.2.1 (by intro x e;cases e) rfl (by simp only [ag,Xr,Xv,y1.2.1,y2.2.1,Z.fl.2.1,Xb];rfl) (lbt rfl) ono) ?_;clear S;rintro h4 ⟨S,A⟩;simp only [LC,ag,lay,Xi,Xj,seval]at S;simp only [BZ,cls,ab,seval];refine⟨by simp only [aK,aO,aH,aQ,aJ,ne_eq,not_false_eq_true,aS,bz,aN,aM,bG,bS,aC,Xb,an,gY,dh C,dh C.symm,seval],?_⟩;refine(bF (by decide) (by simp only [aC,an,seval];exact bD Tryz.t43.1 Tryz.t43.2.1 (S.lds (b:=E) (o:=0) (n:=4) m0 (lbt rfl)))).2 ?_;refine(eo (by decide)).2 (cg.2 ?_);have zE:az h4 4 iU N j.ev:=P.mo A (fun c k e=>by have:=O c k;have:=R6.lt p;omega);have zA:az h4 1 bO xA j.arcs:=ay.mo A (fun c k e=>by have:=(d1 c k).1;have:=R6.lt p;omega);have zB:=aL.mo A (fun c k e=>by have:=nB c k;omega);exact⟨S.gr,_,_,_,_,_,rfl,fun x h=>(by have:=gV.n;rcases h with h|h|h;have:=(d1 x h).1;omega;have:=nB x h;omega;have:=O x h;omega),.inr ⟨y,s,w,j,rfl,rfl,hs,Y,he.resolve_left (fun h=>K h.1)|>.2,zE,.inr ⟨hd,rfl,rfl,zA,zB⟩⟩⟩
     . have H:(72057594037927936:Int)<=(j.dist:Int):=(by omega);simp only [BZ,j0,H,seval];refine ar (aw rfl) (q:=0) (ps:=[(2,3)]) (by kernel_rfl) ?_;simp only [BZ,cls,j2,seval];refine cM (S.store (i:=0) rfl Tryz.t43.2.1 (by intro x e;cases e) rfl (by simp only [ag,Xr,Xv,y1.2.1,y2.2.1,Xb];rfl) (lbt rfl) ono) ?_;clear S;rintro h4 ⟨S,A⟩;simp only [LC,ag,lay,Xi,Xj,seval]at S;simp only [BZ,cls,ab,seval];refine⟨by simp only [aK,aO,aH,aQ,aJ,ne_eq,not_false_eq_true,aS,bz,aN,aM,bG,bS,aC,Xb,an,gY,dh C,dh C.symm,seval],?_⟩;refine(bF (by decide) (by simp only [aC,an,seval];exact bD Tryz.t43.1 Tryz.t43.2.1 (S.lds (b:=E) (o:=0) (n:=4) m0 (lbt rfl)))).2 ?_;refine(eo (by decide)).2 (cg.2 ?_);have zE:az h4 4 iU N j.ev:=P.mo A (fun c k e=>by have:=O c k;have:=R6.lt p;omega);exact⟨S.gr,_,_,_,_,_,rfl,fun x h=>(by have:=gV.n;rcases h with h|h|h;exact h.elim;exact h.elim;have:=O x h;omega),.inr ⟨y,s,w,j,rfl,rfl,hs,Y,he.resolve_left (fun h=>K h.1)|>.2,zE,.inl ⟨by omega,rfl,rfl,rfl,rfl⟩⟩⟩
 . simp only [BZ,c0,seval];refine aE (S.store (i:=0) rfl Tryz.t43.2.1 (by intro x e;cases e) rfl rfl (lbt rfl) ono) ?_;clear S;rintro W ⟨S,X⟩;simp only [LC,ag,lay,Xi,Xj,seval]at S;simp only [BZ,ab];refine(bF (by decide) (by simp only [aC,an,seval];exact bD Tryz.t43.1 Tryz.t43.2.1 (S.lds (b:=E) (o:=0) (n:=4) m0 (lbt rfl)))).2 ?_;refine(eo (by decide)).2 (cg.2 ?_);exact⟨S.gr,_,_,_,_,_,rfl,fun x h=>by rcases h with h|h|h<;>exact h.elim,.inl ⟨.inl c0,rfl,rfl,rfl,rfl,rfl⟩⟩
theorem clr1_ok(k:OZ h0){c:Nat}(R:Row h0 a (i6 n B) 1)(f:j<n)(hB:B j<256)(l:i<8)(m:h0.load c 0 1=some [.bool false])(d:c≠a):
 Ret zM 100 [.pointer (some ⟨a,j,none⟩),.int .u8 ((2 ^i:Nat):Int),ptrTo c] h0 fun r h'=>Mo (· =a) h0 h'/\r=.bool true/\Row h' a (i6 n (dZ B j (B j ^^^(B j&&& 2 ^i)))) 1:=by
 have S:=St.init1 k (o:=.row (i6 n B) 1) R;have g:=S.ld (b:=a) (o:=j) m0 (wC f);have p:=pow8 l;refine aa (n:=19) (rs:=[.tmp 5]) rfl Tryz.e100 rfl rfl rfl (lbt rfl) ?_;simp only [BZ,g,Av hB p,seval];refine aE (aF S (i:=0) rfl Tryz.t5.2.2.1 aU (by rw [xQ];exact f) ono) ?_;clear S g;rintro h ⟨S,q⟩;simp only [LC]at S;rw [xM]at S;have e:=S.old m d;simp only [BZ,ab,e,seval];exact⟨S.fr,S.row m0⟩
def Tz(b a:Nat)(B:Nat->Nat):Prop:= ∀r i,b<=i->i/8<a->gQ B a r i=false
theorem bitB_clr(h:gQ B a r i=false):gQ (dZ B j (B j ^^^(B j&&& 2 ^k))) a r i=false:=by
 unfold gQ dZ at*
 split
 . rename_i e;rw [e]at h;rw [Nat.testBit_xor,Nat.testBit_and,h];rfl
 . exact h
theorem bSetZ_ok(G:OZ h0){y l:Nat}(m:fG h0 y w l k d B)(A:y≠w)(L:r<l)(N:i<k)(s:l<=100)(t:k<=1000)(u:d=(k+7)/8)(x:Bool):
 Ret zM 39 [ptrTo y,.int .i64 (r:Nat),.int .i64 (i:Nat),.bool x] h0 fun v h'=>Mo (· =w) h0 h'/\ ∃O,fG h' y w l k d O/\(Tz k d B->Tz k d O):=by
 cases x with
 |true=>exact(bSet_ok G m A L N s t u).mono fun v h' ⟨a,_,b⟩=>⟨a,_,b,fun z H I F D=>by
  rw [Ci (by omega) D,if_neg (fun e=>by omega)];exact z H I F D⟩
 |false=>
 obtain⟨X,Y,Z,n4,P,n6,Q⟩:=tK L N s t u;have pl: ∀{h:Hp} {E:Nat},Gr h0 h->h.load E 0 1=some [.bool false]->E≠w->Ret zM 99 [ptrTo y,.int .i64 (r:Nat),.int .i64 (i:Nat),.func (.func 100) #[] #[ptrTo E]] h fun v h'=>Mo (· =w) h h'/\v=.bool true/\Row h' w (i6 (l*d) (dZ B (r*d+i/8) (B (r*d+i/8) ^^^(B (r*d+i/8)&&& 2 ^(i%8))))) 1:=by
  intro h E g l7 h7;have S:=Si g.ok;have C:=m.gr g;have c1: ¬(r:Int)<0:=by omega
  have c2: ¬(l:Int)<=(r:Int):=by omega
  have c3: ¬(i:Int)<0:=by omega
  have c4: ¬(k:Int)<=(i:Int):=by omega
  have l2:=C.r.load1 (o:=2) rfl;have l3:=C.r.load1 (o:=3) rfl;have zp:=C.r.lt g.ok;refine aa (n:=46) (rs:=[.tmp 8]) rfl Tryz.e99 rfl rfl rfl (lbt rfl) ?_;simp only [BZ,c1,seval];refine am (jH S.ok C.bits) ?_;intro F J;replace S:=S.call J;simp only [BZ,c2,c3,seval];refine am (jI S.ok (C.gr J).bits) ?_;intro D T;replace S:=S.call T;have p:=J.trans T;have k2:=p.load l2;have k3:=p.load l3;simp only [BZ,c4,seval];refine ar (aw rfl) (q:=0) (ps:=[]) (by kernel_rfl) ?_;simp only [BZ,cls,k2,k3,X,Y,Z,n4,P,mS (n:=8) (by decide),jO (n:=8) (by decide),b_shl8 Q,seval];refine bQ (clr1_ok S.ok (C.b.gr p) P (C.lt _) Q (p.load l7) h7) ?_;rintro v h3 ⟨U,rfl,R3⟩;have vv:leaves D h3 y=true:=pU (U.get y (Xa zp p.n) A);simp only [BZ,cls,ab,seval];exact⟨(p.fr (M:=(· =w))).trans U (fun c K=>.inl K),R3⟩
 have S:=Si G;have zb:=m.b.lt G;refine aa (n:=14) (rs:=[.tmp 8]) rfl Tryz.e39 rfl rfl rfl (lbt rfl) ?_;simp only [BZ,seval];refine ae (bN (by exact og)) S ?_;clear S;intro h E S V;simp only [BZ,seval];have k7:=S.fr.n;refine step_ret (pl S.gr (S.ld m0 rfl) (by omega)) ?_;rintro v h ⟨f,rfl,R⟩;simp only [BZ,seval];have W:Mo (· =w) h0 h:=(S.gr.fr (M:=(· =w))).trans f (fun c K=>.inl K);refine⟨W,_,⟨W.has (o:=.row _ 1) m.r A,R,fun j=>?_⟩,fun z H I F D=>bitB_clr (z H I F D)⟩;unfold dZ
 split
 . exact Nat.xor_lt_two_pow (n:=8) (m.lt _) (Nat.lt_of_le_of_lt Nat.and_le_left (m.lt _))
 . exact m.lt _
def Sep(a:List Value):Prop:= ∀(i j:Nat) (w u:Value) (c:Nat),a[i]? =some w->a[j]? =some u->i≠j->av w c-> ¬av u c
theorem xO{b:Type}{l:List b}{x u:b}(h:(l++[x])[j]? =some u):l[j]? =some u\/(j=l.length/\u=x):=by
 by_cases c:j<l.length
 . rw [Xu c]at h;exact .inl h
 . rw [Xs (by omega)]at h;have a:j-l.length=0:=(by have:=(List.getElem?_eq_some_iff.1 h).1;simp at this;omega);rw [a]at h;cases h;exact .inr ⟨by omega,rfl⟩
theorem Sep.push{f:List Value}(s:Sep f)(h: ∀(j:Nat) u,f[j]? =some u-> ∀c,av u c-> ¬av y c):Sep (f++[y]):=by
 intro i j w u c a b g d e;rcases xO a with a|⟨k,l⟩<;>rcases xO b with b|⟨e3,e4⟩
 . exact s i j w u c a b g d e
 . rw [e4]at e;exact h i w a c d e
 . rw [l]at d;exact h j u b c e d
 . exact g (k.trans e3.symm)
def WrI(h:Hp)(w:Value)(l:List Int):Prop:=az h 1 (encI .i64) w l/\(l≠ []-> ∃b,w=.slice (some ⟨b,0,some 1⟩) l.length l.length/\Row h b (ints l) 1)
theorem WrI.mo{M:Nat->Prop}{h h':Hp}{w:Value}{l:List Int}(r:WrI h w l)(g:Mo M h h')(a: ∀b,av w b-> ¬M b):WrI h' w l:=
 ⟨r.1.mo g a,fun c=>by obtain⟨b,e,k⟩:=r.2 c;exact⟨b,e,g.has (o:=.row _ 1) k (a b (by rw [e];rfl))⟩⟩
theorem WrI.gr{w:Value}(r:WrI h w l)(g:Gr h h'):WrI h' w l:=r.mo (M:=NoM) g.fr (fun _ _ h=>h)
theorem Dp(l:OZ h0){xs:List Int}(m:az h0 1 (encI .i64) v xs)(q:xs.length<1000000):Ret zM 153 [v] h0 fun r h'=>Gr h0 h'/\WrI h' r xs/\ ∀c,av r c->h0.n<=c:=by
 have S:=Si l;by_cases f:xs=[]
 . obtain⟨r,h',t,g,u,i⟩:=tG l m q;exact⟨r,h',t,g,⟨u,fun h=>absurd f h⟩,i⟩
 rcases m with⟨rfl,rfl⟩|⟨b,o,s,c,rfl,w,x⟩
 . exact absurd rfl f
 . refine aa (n:=8) (rs:=[.tmp 2]) rfl Tryz.e153 rfl rfl rfl (lbt rfl) ?_;simp only [BZ,seval];refine ae (ce (by exact Tryz.t23.1) (by exact Tryz.e2E) (by decide) (by rfl)) S ?_;clear S;intro h z S p;simp only [LC,bJ,cq,ag,XF,Xw,Xt,XG,seval]at S;simp only [BZ,seval];have j:az h 1 (encI .i64) (.slice (some ⟨b,o,s⟩) xs.length c) xs:=.inr ⟨b,o,s,c,rfl,w,S.old x (fun h=>h)⟩;refine dQ (S.clone (n:=0) (vs:=[]) Tryz.t23.1 Tryz.e2E (by decide) Tryz.t23.2.2.2.2.2 j.src (cC (bV .i64) xs).symm rfl (by decide) (by rw [cC (bV .i64)];simp;omega) (S.row m0)) ?_;rintro h' v (⟨e,_⟩|⟨a,rfl,k⟩)
   . exact absurd (List.length_eq_zero_iff.1 e) f
   simp only [BZ,ab,seval];have d:Row h' a (ints xs) 1:=k.row m0;have y:h0.n<=a:=(k.own _ m0).1.elim (fun h=>h) (fun h=>h.elim);refine⟨k.gr,⟨.inr ⟨a,0,some 1,xs.length,rfl,Xz _,?_⟩,fun _=>⟨a,rfl,d⟩⟩,fun c i=>?_⟩
   . rw [d.load (by rw [cD];omega),Xx,Xt,<-cD xs,Xn];rfl
   . obtain rfl:a=c:=i;exact y
def LLD(h:Hp)(m k:Nat)(v:Value)(n:Nat)(R:Nat->List Int):Prop:=
 ∃a:List Value,az h 1 encV v a/\a.length=n/\(∀c,av v c->m<=c/\c<k)/\(∀(i:Nat) w,a[i]? =some w->WrI h w (R i)/\ ∀c,av w c->m<=c/\c<k/\ ¬av v c)/\Sep a
theorem LLD.ll(r:LLD h m k v n R):fV h m v n R:=by obtain⟨g,a,b,c,d,_⟩:=r;exact⟨g,a,b,fun x e=>(c x e).1,fun i w f=>⟨(d i w f).1.1,fun x e=>((d i w f).2 x e).1⟩⟩
theorem LLD.mo{M:Nat->Prop}{h h':Hp}{m k n:Nat}{v:Value}{R:Nat->List Int}(r:LLD h m k v n R)(g:Mo M h h')(o: ∀b,M b->b<m\/k<=b):LLD h' m k v n R:=by obtain⟨q,a,b,c,d,e⟩:=r;exact⟨q,a.mo g (fun x f j=>by have:=c x f;have:=o x j;omega),b,c,fun i w l=>⟨(d i w l).1.mo g (fun x f j=>by have p:=(d i w l).2 x f;have s:=p.1;have t:=p.2.1;have:=o x j;omega),(d i w l).2⟩,e⟩
theorem LLD.gr(r:LLD h m k v n R)(g:Gr h h'):LLD h' m k v n R:=r.mo (M:=NoM) g.fr (fun _ h=>h.elim)
theorem LLD.form(r:LLD h m k v n R): ∃a n c,v=.slice a n c:=by obtain⟨_,s,_⟩:=r;rcases s with⟨rfl,_⟩|⟨b,o,s,c,rfl,_⟩<;>exact⟨_,_,_,rfl⟩
theorem mem_gkey{M:Nat->Prop}{a:List Value}(S:St M h0 h [] [(v,k,a)]){c:Nat}(d:av v c):c∈keys [] [(v,k,a)]:=by
 have f:eH (v,k,a)=some c:=by
  rcases(S.gown (v,k,a) (List.mem_singleton.2 rfl)).1 with⟨e,_⟩|⟨b,n,e,_⟩
  . rw [show v=_ from e]at d;exact d.elim
  . have g:v=.slice (some ⟨b,0,some k⟩) n n:=e;rw [g]at d⊢;exact congrArg some d
 exact List.mem_filterMap.2 ⟨_,List.mem_singleton.2 rfl,f⟩
theorem rI  (X:OZ h0)    (M:fV h0 m v n R) (hn:n<1000) (Y: ∀i,i<n->(R i).length<1000000):
 Ret zM 86 [v] h0 fun r h'=>Gr h0 h'/\LLD h' h0.n h'.n r n R:=by
 have S:=Si X;refine aa (n:=18) (rs:=[.tmp 2]) rfl Tryz.e86 rfl rfl rfl (lbt rfl) ?_;simp only [BZ,M.lenq,seval];replace S:=S.nilG (k:=1);refine bj (fun(i:Nat) C h=>i<=n/\ ∃(f:List Value) (s:Value),St NoM h0 h [] [(s,1,f)]/\f.length=i/\(∀j w,f[j]? =some w->WrI h w (R j)/\ ∀c,av w c->h0.n<=c/\c∉keys [] [(s,1,f)])/\Sep f/\C 2=s/\C 5=v/\C 6=.int .i64 n/\C 7=.int .i64 i) (fun i=>n-i) ?_ 0 _ _ ?_
 . clear S;intro i Z C h ⟨hi,f,s,S,t,hc,hd,r2,r5,r6,r7⟩;have ac:Fl s:=by
    rcases(S.gown _ m0).1 with⟨e,_⟩|⟨_,_,e,_⟩
    . rw [show s=_ from e];exact aW
    . rw [show s=_ from e];exact aW
   by_cases hlt:i<n
   . obtain⟨x,⟨q,o,D,G⟩,N,_⟩:=(M.gr S.gr).row hlt;have fx:=N.fl;have w:au .i64 ((i:Int)+1)=((i+1:Nat):Int):=(by rw [wrap64]<;>omega);simp only [BZ,r2,r5,r6,r7,aG,hlt,D,G,seval];have H:=S;refine step_ret (Dp S.ok N (Y i hlt)) ?_;rintro y O ⟨g,I,J⟩;have F:=S.call g;obtain⟨z,A,B,rfl⟩:=I.1.form;have fy:Fl (.slice z A B):=aW;have l: ∀(j:Nat) u,(f++[.slice z A B])[j]? =some u->WrI O u (R j)/\ ∀c,av u c->h0.n<=c/\c∉keys [] [(s,1,f)]/\c<O.n:=fun j u d=>by
      rcases xO d with d|⟨rfl,rfl⟩
      . obtain⟨P,Q⟩:=hc j u d;exact⟨P.gr g,fun c a=>⟨(Q c a).1,(Q c a).2,(P.gr g).1.lt F.ok a⟩⟩
      . rw [t];exact⟨I,fun c a=>⟨Xl H.fr.n (J c a),fun K=>by have:=H.key_lt K;have:=J c a;omega,I.1.lt F.ok a⟩⟩
     have L:=hd.push (y:=.slice z A B) fun j u d c a hy=>(by have:=(hc j u d).1.1.lt H.ok a;have:=J c hy;omega);replace S:=F.base;simp only [BZ,seval];refine ae (ce (by exact Tryz.t79.1) (by exact Tryz.e23E) (by decide) (by rfl)) S ?_;clear S;intro h T S U;simp only [LC,bJ,cq,ag,XF,Xw,Xt,XG,seval]at S;simp only [BZ,seval];have E:aR h 1 (.slice (some ⟨T,0,none⟩) 1 1)=some (1,[.slice z A B]):=(by simp only [aR];rw [S.lds (b:=T) (o:=0) (n:=1*1) m0 (lbt rfl)];rfl);replace S:=S.drop1;refine dQ (S.grow (j:=0) (m:=1) (new:=[.slice z A B]) rfl Tryz.t79.1 Tryz.e23E (by decide) Tryz.t79.2.2.2.2.2 E rfl (by decide) (by simp [fy.2.1]) (by simp;omega)) ?_;clear S E;rintro h p S;simp only [LC]at S;have fv:Fl p:=by
      rcases(S.gown _ m0).1 with⟨e,_⟩|⟨_,_,e,_⟩
      . rw [show p=_ from e];exact aW
      . rw [show p=_ from e];exact aW
     simp only [BZ,r7,w,seval];refine Z (i+1) _ _ (by omega) ⟨by omega,f++[.slice z A B],p,F.rebase S,by simp [t],fun j u d=>⟨(l j u d).1.mo S.fr (fun c a=>((l j u d).2 c a).2.1),fun c a=>⟨((l j u d).2 c a).1,fun K=>?_⟩⟩,L,by simp [aD,r5,r6]⟩;rcases S.key_new c K with V|V
     . exact((l j u d).2 c a).2.1 V
     . have:=((l j u d).2 c a).2.2;omega
   . simp only [BZ,ab,r2,r6,r7,aG,hlt,seval];have W:=(S.gown _ m0).1.sl (Au f).symm tM (by decide);refine⟨S.gr,f,W,by omega,fun c a=>⟨((S.gblk m0 a).1).elim (fun h=>h) (fun h=>h.elim),W.lt S.ok a⟩,fun j u d=>⟨(hc j u d).1,fun c a=>⟨((hc j u d).2 c a).1,(hc j u d).1.1.lt S.ok a,fun hv=>((hc j u d).2 c a).2 ?_⟩⟩,hd⟩;exact mem_gkey S hv
 . exact⟨Xd _,[],_,S,rfl,fun j w t=>by simp at t,fun i j w u c t=>by simp at t,by simp [aD,cK]⟩
def iw(N:Nat)(l:List Int):Prop:=l.length=N/\ ∀x∈l,0<=x/\x<=72057594037927936
theorem mk11_ok(a:OZ h0){x:Int}(d:0<=x/\x<=72057594037927936):aT zM 89 [.int .i64 x] h0 (.bool false):=by
 have S:=Si a;have b: ¬x<0:=by omega
 have c: ¬72057594037927936<x:=by omega
 refine aa (n:=9) (rs:=[.tmp 2]) rfl Tryz.e89 rfl rfl rfl (lbt rfl) ?_;simp only [BZ,ab,b,c,seval];exact S.gr
theorem mkIdx_ok(d:OZ h0)(e:az h0 1 (encI .i64) v l)(k:l.length<=1000000)(f: ∀x∈l,0<=x/\x<=72057594037927936):aT zM 176 [v,.func (.func 89) #[] #[]] h0 (.int .i64 (-1)):=by
 have S:=Si d;refine aa (n:=19) (rs:=[.tmp 4]) rfl Tryz.e176 rfl rfl rfl (lbt rfl) ?_;simp only [BZ,e.lenq,seval];refine bj (fun(i:Nat) a h=>i<=l.length/\Gr h0 h/\a 0=v/\a 1=.func (.func 89) #[] #[]/\a 7=.int .i64 l.length/\a 8=.int .i64 i) (fun i=>l.length-i) ?_ 0 _ _ ?_
 . clear S;intro i j a h ⟨hi,S,r0,r1,r7,r8⟩;by_cases hlt:i<l.length
   . obtain⟨q,o,b,c⟩:=(e.gr S).ix (kd:=.i64) (bV .i64) hlt;have w:au .i64 ((i:Int)+1)=((i+1:Nat):Int):=(by rw [wrap64]<;>omega);simp only [BZ,r0,r1,r7,r8,aG,hlt,b,c,encI,seval];refine am (mk11_ok S.ok (f _ (Xh hlt))) ?_;intro m g;simp only [BZ,r8,w,seval];exact j (i+1) _ _ (by omega) ⟨by omega,S.trans g,by simp [aD,r0,r1,r7]⟩
   . simp only [BZ,ab,r7,r8,aG,hlt,seval];exact S
 . exact⟨Xd _,Gr.refl d,by simp [aD,cK,dw]⟩
theorem mkCf_ok(a:OZ h0)(b:az h0 1 (encI .i64) v l)(c:l.length<=1000000)(d: ∀x∈l,0<=x/\x<=72057594037927936):aT zM 88 [v,.func (.func 89) #[] #[]] h0 (.bool false):=by have S:=Si a;refine aa (n:=9) (rs:=[.tmp 4]) rfl Tryz.e88 rfl rfl rfl (lbt rfl) ?_;simp only [BZ,seval];refine am (mkIdx_ok S.ok b c d) ?_;intro h g;replace S:=S.call g;clear g;simp only [BZ,ab,seval];exact S.gr
theorem mk1_ok(d:OZ h0)(f:h0.load b 0 1=some [.int .i64 N])(a:az h0 1 (encI .i64) v l)(c:iw N l)(i:N<=1000000):aT zM 87 [v,ptrTo b] h0 (.bool false):=by have S:=Si d;have e:=c.1;subst e;refine aa (n:=12) (rs:=[.tmp 3]) rfl Tryz.e87 rfl rfl rfl (lbt rfl) ?_;simp only [BZ,a.lenq,f,seval];refine am (mkCf_ok S.ok a i c.2) ?_;intro h g;replace S:=S.call g;clear g;simp only [BZ,ab,seval];exact S.gr
theorem mkIdxR_ok(e:OZ h0)(k:h0.load b 0 1=some [.int .i64 N])(f:fV h0 m v n R)(s:n<=1000000)(l: ∀i,i<n->iw N (R i))(p:N<=1000000):aT zM 177 [v,.func (.func 87) #[] #[ptrTo b]] h0 (.int .i64 (-1)):=by
 have S:=Si e;refine aa (n:=19) (rs:=[.tmp 4]) rfl Tryz.e177 rfl rfl rfl (lbt rfl) ?_;simp only [BZ,f.lenq,seval];refine bj (fun(i:Nat) a h=>i<=n/\Gr h0 h/\a 0=v/\a 1=.func (.func 87) #[] #[ptrTo b]/\a 7=.int .i64 n/\a 8=.int .i64 i) (fun i=>n-i) ?_ 0 _ _ ?_
 . clear S;intro i r a h ⟨hi,S,r0,r1,r7,r8⟩;by_cases hlt:i<n
   . obtain⟨x,⟨q,o,c,d⟩,j,_⟩:=(f.gr S).row hlt;have t:=j.fl;have w:au .i64 ((i:Int)+1)=((i+1:Nat):Int):=(by rw [wrap64]<;>omega);simp only [BZ,r0,r1,r7,r8,aG,hlt,c,d,seval];refine am (mk1_ok S.ok (S.load k) j (l i hlt) p) ?_;intro u g;simp only [BZ,r8,w,seval];exact r (i+1) _ _ (by omega) ⟨by omega,S.trans g,by simp [aD,r0,r1,an,r7]⟩
   . simp only [BZ,ab,r7,r8,aG,hlt,seval];exact S
 . exact⟨Xd _,Gr.refl e,by simp [aD,cK,dw,an]⟩
theorem mkCfR_ok(a:OZ h0)(c:h0.load b 0 1=some [.int .i64 N])(d:fV h0 m v n R)(e:n<=1000000)(f: ∀i,i<n->iw N (R i))(j:N<=1000000):aT zM 91 [v,.func (.func 87) #[] #[ptrTo b]] h0 (.bool false):=by have S:=Si a;refine aa (n:=9) (rs:=[.tmp 4]) rfl Tryz.e91 rfl rfl rfl (lbt rfl) ?_;simp only [BZ,seval];refine am (mkIdxR_ok S.ok c d e f j) ?_;intro h g;replace S:=S.call g;clear g;simp only [BZ,ab,seval];exact S.gr
theorem mk2_ok(j:OZ h0){c:Nat}{d:Value}(k:h0.load b5 0 1=some [d])(o:h0.load c 0 1=some [.func (.func 87) #[] #[ptrTo b]])(e:az h0 1 (encI .i64) d l)(p:h0.load b 0 1=some [.int .i64 N])(f:fV h0 m v n R)(q:n<=1000000)(a:l.length=n)(r: ∀i,i<n->iw N (R i))(s:N<=1000000):aT zM 90 [v,ptrTo b5,ptrTo c] h0 (.bool false):=by have S:=Si j;have t:=e.fl;subst a;refine aa (n:=15) (rs:=[.tmp 4]) rfl Tryz.e90 rfl rfl rfl (lbt rfl) ?_;simp only [BZ,f.lenq,e.lenq,k,o,seval];refine am (mkCfR_ok S.ok p f q r s) ?_;intro h g;replace S:=S.call g;clear g;simp only [BZ,ab,seval];exact S.gr
theorem make_ok(ok:OZ h0){mT mF:Nat}{M O P:Value}(s:az h0 1 (encI .i64) M l)(T:fV h0 mT O l.length R)(U:fV h0 mF P l.length Q)(n1:1<=N)(hN:N<=100)(V:iT N l)(W: ∀i,i<l.length->iw N (R i))(X: ∀i,i<l.length->iw N (Q i)):
 Ret zM 35 [.int .i64 N,M,O,P] h0 fun r h'=>Gr h0 h'/\TabAt h' h0.n r N l R Q:=by
 have S:=Si ok;have Y:=V.1;have k:l.length<1000:=by omega
 have c1: ¬(N:Int)<1:=by omega
 have cm:decide (iT N l)=true:=decide_eq_true V;have fM:=s.fl;obtain⟨ma,mn,mc,rfl⟩:=s.form;refine aa (n:=40) (rs:=[.tmp 8]) rfl Tryz.e35 rfl rfl rfl (lbt rfl) ?_;simp only [BZ,seval];refine ae (bA (by intro x e;cases e)) S ?_;clear S;intro h d S Z;simp only [ag]at S;simp only [BZ,if_false,seval];refine ae (bA (by intro x e;cases e)) S ?_;clear S;intro h f S ac;simp only [ag]at S;simp only [BZ,seval];refine ae aA S ?_;clear S;intro h A S ad;simp only [BZ,seval];refine aE (aF S (i:=0) rfl ?_ ?_ ?_ ono) ?_
 . exact(by simp only [FA0])
 . exact(by exact eh)
 . exact Xf (lbt rfl)
 clear S;rintro h ⟨S,mo⟩;clear mo;simp only [LC,ag,lay,Xi,Xj,seval]at S;have m:=S.ld (b:=d) (o:=0) m2 rfl;have p:=S.ld (b:=f) (o:=0) m1 rfl;have y:=S.ld (b:=A) (o:=0) m0 rfl;simp only [BZ,m,p,c1,seval];refine am (may_ok S.ok (s.gr S.gr) (by omega)) ?_;intro h g;replace S:=S.call g;clear g;rw [cm];simp only [BZ,seval];have m:=S.ld (b:=d) (o:=0) m2 rfl;have p:=S.ld (b:=f) (o:=0) m1 rfl;have y:=S.ld (b:=A) (o:=0) m0 rfl;refine am (mk2_ok S.ok p y (s.gr S.gr) m (T.gr S.gr) (by omega) rfl W (by omega)) ?_;intro h g;replace S:=S.call g;clear g;simp only [BZ,seval];have m:=S.ld (b:=d) (o:=0) m2 rfl;have p:=S.ld (b:=f) (o:=0) m1 rfl;have y:=S.ld (b:=A) (o:=0) m0 rfl;refine am (mk2_ok S.ok p y (s.gr S.gr) m (U.gr S.gr) (by omega) rfl X (by omega)) ?_;intro h g;replace S:=S.call g;clear g;have m:=S.ld (b:=d) (o:=0) m2 rfl;have p:=S.ld (b:=f) (o:=0) m1 rfl;simp only [BZ,seval];refine ar (aw rfl) (q:=256) (ps:=[(0,6),(0,4),(0,2)]) (by kernel_rfl) ?_;simp only [BZ,cls,m,p,seval];refine bQ (jK S.ok (bV .i64) (s.gr S.gr) (by omega)) ?_;rintro v h ⟨g,a,nM⟩;have e41:leaves _ _ d=true:=ah g ((S.row (b:=d) m2).lt S.ok);have e51:leaves _ _ f=true:=ah g ((S.row (b:=f) m1).lt S.ok);have k1:=S.fr.n;have B:=fun c (j:c∈keys _ _)=>S.key_lt j;replace S:=S.call g;clear g;obtain⟨va,vn,vc,rfl⟩:=a.form;simp only [BZ,cls,seval];refine bQ (rI S.ok (T.gr S.gr) k (fun i C=>by have:=(W i C).1;omega)) ?_;rintro v h ⟨g,z⟩;have e42:leaves _ _ d=true:=ah g ((S.row (b:=d) m2).lt S.ok);have e52:leaves _ _ f=true:=ah g ((S.row (b:=f) m1).lt S.ok);have k2:=S.fr.n;have D:=fun c (j:c∈keys _ _)=>S.key_lt j;replace S:=S.call g;replace a:=a.gr g;clear g;obtain⟨ta,tn,tc,rfl⟩:=z.form;simp only [BZ,cls,seval];refine bQ (rI S.ok (U.gr S.gr) k (fun i C=>by have:=(X i C).1;omega)) ?_;rintro v h ⟨g,L2⟩;have e43:leaves _ _ d=true:=ah g ((S.row (b:=d) m2).lt S.ok);have e53:leaves _ _ f=true:=ah g ((S.row (b:=f) m1).lt S.ok);have k3:=S.fr.n;have E:=fun c (j:c∈keys _ _)=>S.key_lt j;replace S:=S.call g;replace a:=a.gr g;replace z:=z.gr g;clear g;obtain⟨fa,fn,fc,rfl⟩:=L2.form;simp only [BZ,cls,seval];have t:=S;replace S:=S.base;have q4:=(t.row (b:=d) m2).lt t.ok;have q5:=(t.row (b:=f) m1).lt t.ok;refine cL (bA (by intro x e;cases e)) S ?_;clear S;intro h b S af F;simp only [ag]at S;have G:d≠b:=by omega
 have H:f≠b:=by omega
 simp only [BZ,cls,ab,seval];refine⟨by simp only [aK,aO,aH,aQ,aJ,ne_eq,not_false_eq_true,aS,bz,aN,aM,bG,bS,aC,Xb,an,ao e41,ao e42,ao e43,ao e51,ao e52,ao e53,dh G,dh H,<-F,seval],?_⟩;have I:=S.fr;have u:=a.mo I (fun c j w=>by have:=nM c j;have:=B c w;omega);have J:=z.mo I (fun c w=>.inl (D c w));have K:=L2.mo I (fun c w=>.inl (E c w));have L:=S.row (b:=b) m0;replace S:=t.rebase S;exact⟨S.gr,⟨b,_,_,_,rfl,L,u,J.ll.low k2,K.ll.low k3,(S.own _ m0).1.elim (fun h=>h) (fun h=>h.elim),fun c j=>Xl k1 (nM c j)⟩⟩
theorem Ed(u:OZ h0)(t:TabAt h0 m p N l R Q)(f:l.length<1000)(w: ∀i,i<l.length->(R i).length<1000000)(x: ∀i,i<l.length->(Q i).length<1000000):
 Ret zM 34 [p] h0 fun r h'=>Gr h0 h'/\ ∃d e k,r=.tuple #[d,e]/\LLD h' h0.n k d l.length R/\LLD h' k h'.n e l.length Q/\h0.n<=k/\k<=h'.n:=by
 have S:=Si u;obtain⟨b,E,d,e,rfl,a,_,y,z,_⟩:=t.ex;have A:=a.load1 (o:=2) rfl;refine aa (n:=16) (rs:=[.tmp 2,.tmp 3]) rfl Tryz.e34 rfl rfl rfl (lbt rfl) ?_;simp only [BZ,seval];refine ar (aw rfl) (q:=0) (ps:=[(4,8)]) (by kernel_rfl) ?_;simp only [BZ,cls,A,seval];refine bQ (rI S.ok (y.gr S.gr) f w) ?_;rintro v h ⟨g,c⟩;have F:=S.fr.n;have j:leaves _ _ b=true:=ah g (a.lt S.ok);replace S:=S.call g;replace a:=a.gr g;clear g;obtain⟨G,H,I,rfl⟩:=c.form;have B:=a.load1 (o:=3) rfl;simp only [BZ,cls,B,seval];refine bQ (rI S.ok (z.gr S.gr) f x) ?_;rintro v h ⟨g,s⟩;have C:=S.fr.n;have D:=S.ok;replace S:=S.call g;replace c:=c.gr g;obtain⟨J,K,L,rfl⟩:=s.form;simp only [BZ,cls,ab,seval];refine⟨by simp only [aK,aO,aH,aQ,aJ,ne_eq,not_false_eq_true,aS,bz,aN,aM,bG,bS,aC,Xb,an,ao j,aq j,seval],?_⟩;exact⟨S.gr,_,_,_,rfl,c,s,C,g.n⟩
theorem LLD.at{h:Hp}{m k n:Nat}{v:Value}{R:Nat->List Int}(r:LLD h m k v n R){i:Nat}(J:i<n)(y:R i≠ []):
 ∃ c,(∃q o,m9 (some 1) v (.int .i64 (i:Nat))=some (.pointer (some ⟨q,o,none⟩))/\h.load q o 1=some [.slice (some ⟨c,0,some 1⟩) (R i).length (R i).length])/\Row h c (ints (R i)) 1/\m<=c/\c<k/\
   ∀h' l',Mo (· =c) h h'->l'.length=(R i).length->Row h' c (ints l') 1->LLD h' m k v n (fun t=>if t=i then l' else R t):=by
 obtain⟨p,a,b,c,d,e⟩:=r;obtain⟨q,o,H,z⟩:=a.ix (kd:=.i64) tM (i:=i) (by omega);have A:p[i]? =some p[i]:=Xc (by omega);obtain⟨⟨K,I⟩,B⟩:=d i _ A;obtain⟨l,C,D⟩:=I y;have f:av p[i] l:=by rw [C];rfl
 refine⟨l,⟨q,o,H,by rw [<-C];exact z⟩,D,(B l f).1,(B l f).2.1,fun h' l' G s g=>⟨p,a.mo G (fun x E e=>by subst e;exact(B _ f).2.2 E),b,c,fun j w u=>?_,e⟩⟩;refine⟨?_,(d j w u).2⟩;show WrI h' w (if j=i then l' else R j);by_cases F:j=i
 . subst F;rw [if_pos rfl];rw [A]at u;cases u;rw [C];refine⟨.inr ⟨l,0,some 1,(R j).length,by rw [s],by omega,?_⟩,fun _=>⟨l,by rw [s],g⟩⟩;rw [g.load (by rw [cD];omega),Xx,Xt,<-cD l',Xn];rfl
 . rw [if_neg F];exact(d j w u).1.mo G (fun x E z=>by subst z;exact e j i w p[i] _ u A F E f)
theorem AZ{B:List Arc}(h: ∀v,dOf B s v<=FAR){x:Int}(a:x∈rowD B N s):0<=x/\x<=72057594037927936:=by unfold rowD at a;obtain⟨v,_,rfl⟩:=List.mem_map.1 a;have:=h v;unfold FAR at this;omega
def crcS(r:Nat):Nat:=(r>>>1) ^^^(if r%2=1 then 3988292384 else 0)
def crcN:Nat->Nat->Nat
 |0,r=>r|k+1,r=>crcN k (crcS r)
def crcB(r b:Nat):Nat:=crcN 8 (r ^^^b)
def crcL(r:Nat)(l:List UInt8):Nat:=l.foldl (fun r b=>crcB r b.toNat) r
def crc(l:List UInt8):Nat:=4294967295 ^^^crcL 4294967295 l
abbrev Bs:=List UInt8
def getN:Bs->Nat
 | []=>0|b::l=>b.toNat+256*getN l
def first6:Bs:=[77,73,76,69,49,1]
abbrev Ent:=Nat×Nat×Nat
def entD(s:Bs):Ent:=(getN (s.take 1),getN ((s.drop 1).take 8),getN ((s.drop 9).take 4))
def entsD:Nat->Bs->List Ent
 |0,_=>[]|k+1,s=>entD s::entsD k (s.drop 13)
def vV(s:Bs):Nat:=getN ((s.drop 6).take 1)
def headOk(s:Bs):Prop:=s.take 6=first6/\7<=s.length/\vV s<=16/\11+13*vV s<=s.length/\getN ((s.drop (7+13*vV s)).take 4)=crc (s.take (7+13*vV s))/\
 ((entsD (vV s) (s.drop 7)).map (·.2.1)).sum=s.length-(11+13*vV s)
noncomputable instance (s:Bs):Decidable (headOk s):=Classical.propDecidable _
def u64(x:Int):Nat:=(x%18446744073709551616).toNat
def i64(n:Nat):Int:=if n<9223372036854775808 then n else n-18446744073709551616
theorem u64_lt(x:Int):u64 x<256 ^8:=by unfold u64;omega
structure Tab where
 l:List Int
 to:List (List Int)
 fr:List (List Int)
structure Img where
 g:Gra
 T:Option Tab
 C:Option (List Int×Bs)
structure TabL(N:Nat)(T:Tab):Prop where
 l1:1<=T.l.length
 l2:T.l.length<=16
 to:T.to.length=T.l.length
 fr:T.fr.length=T.l.length
 rTo: ∀r∈T.to,r.length=N/\ ∀x∈r,0<=x/\x<=72057594037927936
 rFr: ∀r∈T.fr,r.length=N/\ ∀x∈r,0<=x/\x<=72057594037927936
 rl: ∀x∈T.l,0<=x/\x<4294967296
theorem hf_u{k:IntKind}(h:sgn k=false):hf k=pw k:=by cases k<;>first|rfl|cases h
theorem wrapN{k:IntKind}(h:sgn k=false)(n:Nat):au k (n:Int)=((n%pw k:Nat):Int):=by
 show au k (.ofNat n)=_;simp only [au,hf_u h,h];cases a:Nat.blt n (pw k)with
 |true=>rw [Nat.blt_eq]at a;rw [cond_true,Nat.mod_eq_of_lt a];rfl|false=>rfl
theorem tX{k:IntKind}(h:sgn k=false)(a:n<pw k):au k (n:Int)=(n:Int):=by rw [wrapN h,Nat.mod_eq_of_lt a]
section
variable{E:Env}{t:TypeId}{p q:Operand}{x y:Nat}{k k':IntKind}
theorem bitsU(op:BinOp)(a:x<pw k)(b:y<pw k):jf op k (x:Int) (y:Int)=match op with
 | .and=>some (au k ((x&&& y:Nat):Int))| .or=>some (au k ((x|||y:Nat):Int))
 | .xor=>some (au k ((x ^^^y:Nat):Int))| .andNot=>some (au k ((x ^^^(x&&& y):Nat):Int))|_=>none:=by
 show jf op k (.ofNat x) (.ofNat y)=_;have c:Nat.blt x (pw k)=true:=by rw [Nat.blt_eq];exact a
 have d:Nat.blt y (pw k)=true:=by rw [Nat.blt_eq];exact b
 unfold jf;simp only [c,d,Bool.and_self,cond_true];cases op<;>rfl
theorem pw_two(k:IntKind):pw k=2 ^bitsOf k:=by cases k<;>rfl
theorem b_andN(h:sgn k=false)(a:x<pw k)(b:y<pw k):bZ E .and t p q (.int k (x:Int)) (.int k (y:Int))=some (.int k ((x&&& y:Nat):Int)):=by show(bif jF k k then(jf .and k (x:Int) (y:Int)).map (Value.int k ·)else none)=_;rw [bitsU .and a b,gH];simp only [tX h (Nat.lt_of_le_of_lt Nat.and_le_left a)];rfl
theorem b_orN(h:sgn k=false)(a:x<pw k)(b:y<pw k):bZ E .or t p q (.int k (x:Int)) (.int k (y:Int))=some (.int k ((x|||y:Nat):Int)):=by
 show(bif jF k k then(jf .or k (x:Int) (y:Int)).map (Value.int k ·)else none)=_;have:x|||y<pw k:=by rw [pw_two]at a b⊢;exact Nat.or_lt_two_pow a b
 rw [bitsU .or a b,gH];simp only [tX h this];rfl
end
def sv(l:Bs):Value:=.string (iY l)
theorem wrap_u64(x:Int):au .u64 x=(u64 x:Int):=by
 cases x with
 |ofNat m=>exact(wrapN rfl m).trans (by unfold u64;rw [show Int.ofNat m=(m:Int)from rfl];simp only [pw];omega)|negSucc m=>show((pw .u64-1-m%pw .u64:Nat):Int)=_;unfold u64;simp only [pw];omega
def byB(n:Nat)(B:Nat->Nat):Bs:=(zO n).map fun j=>UInt8.ofNat (B j)
def kQ(l:List (List Int))(i:Nat):List Int:=l.getD i []
def TabM(h:Hp)(p:Value)(N:Nat)(T:Tab):Prop:=(∃m,TabAt h m p N T.l (kQ T.to) (kQ T.fr))/\TabL N T
theorem TabM.gr{h h':Hp}{p:Value}{N:Nat}{T:Tab}(t:TabM h p N T)(g:Gr h h'):TabM h' p N T:=⟨by obtain⟨m,x⟩:=t.1;exact⟨m,x.gr g⟩,t.2⟩
def CelM(h:Hp)(d e:Value)(γ:Gra)(m:List Int)(F:Bs):Prop:= ∃k c f b a B,jU h k d m/\m.length=γ.nodes/\e=ptrTo c/\gP m+1=((b:Nat):Int)/\fG h c f b γ.arcs.length a B/\F=byB (b*a) B/\(∀x∈m,0<=x/\x<256)/\ ¬yi m/\a=(γ.arcs.length+7)/8/\Tz γ.arcs.length a B
theorem CelM.gr{h h':Hp}{n o:Value}{γ:Gra}{m:List Int}{F:Bs}(c:CelM h n o γ m F)(g:Gr h h'):CelM h' n o γ m F:=by obtain⟨k,p,q,j,l,B,a,b,c,d,e,f,i⟩:=c;exact⟨k,p,q,j,l,B,a.gr g,b,c,d,e.gr g,f,i⟩
def TabX(h:Hp)(p:Value)(N:Nat):Option Tab->Prop
 |none=>p=.pointer none|some T=>TabM h p N T
def CelX(h:Hp)(a b:Value)(γ:Gra):Option (List Int×Bs)->Prop
 |none=>a=.pointer none/\b=.pointer none|some (m,F)=>CelM h a b γ m F
theorem TabX.gr{h h':Hp}{p:Value}{N:Nat}{T:Option Tab}(t:TabX h p N T)(g:Gr h h'):TabX h' p N T:=by
 cases T with
 |none=>exact t|some T=>exact TabM.gr t g
theorem CelX.gr{h h':Hp}{a b:Value}{γ:Gra}{C:Option (List Int×Bs)}(t:CelX h a b γ C)(g:Gr h h'):CelX h' a b γ C:=by
 cases C with
 |none=>exact t|some c=>exact CelM.gr t g
def ImC(h:Hp)(pn a b c:Value)(I:Img):Prop:=(∃d,aX h d pn I.g)/\mg I.g/\TabX h a I.g.nodes I.T/\CelX h b c I.g I.C
theorem ImC.gr{h h':Hp}{pn a b c:Value}{I:Img}(i:ImC h pn a b c I)(g:Gr h h'):ImC h' pn a b c I:=⟨by obtain⟨d,n⟩:=i.1;exact⟨d,n.gr g⟩,i.2.1,i.2.2.1.gr g,i.2.2.2.gr g⟩
def ImAt(h:Hp)(b:Nat)(I:Img):Prop:= ∃a c d e,Row h b [a,c,d,e] 1/\ImC h a c d e I
theorem ImAt.gr{h h':Hp}{b:Nat}{I:Img}(i:ImAt h b I)(g:Gr h h'):ImAt h' b I:=by obtain⟨a,d,e,f,r,c⟩:=i;exact⟨a,d,e,f,r.gr g,c.gr g⟩
theorem TabM.ptr{T:Tab}(t:TabM h p N T): ∃b,p=ptrTo b:=by obtain⟨⟨m,t⟩,_⟩:=t;obtain⟨b,_,_,_,e,_⟩:=t.ex;exact⟨b,e⟩
theorem CelM.ptr{a d:Value}{m:List Int}{F:Bs}(c:CelM h a d γ m F): ∃b c,a=ptrTo b/\d=ptrTo c:=by obtain⟨k,i,l,f,g,B,⟨b,_,e,_⟩,_,j,_⟩:=c;exact⟨b,i,e,j⟩
theorem aX.ptr(n:aX h a p γ): ∃b,p=ptrTo b:=by obtain⟨b,_,_,_,_,_,e,_⟩:=n.ex;exact⟨b,e⟩
end Go.Ab

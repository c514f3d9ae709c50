/- Nets, cells, flags: what the functions do (part 4). -/
import Derived.Test.YtdcndollikinnaaGreatDoorNetC
open Go.Ab.Tryz
open List renaming range->zM,getD_eq_getElem?_getD->Xa,getElem?_eq_getElem->Xc,getElem_mem->Xd,take_succ_eq_append_getElem->Xg,not_mem_nil->Xi,getElem?_map->Xk,mem_cons->Xm,take->Xn,drop->Xo,take_length->Xp,length_map->Xr,getElem_of_mem->Xt,mem_append->Xu,getElem?_append_left->Xv,perm_append_comm->Xw,mem_filter->Xy,mem_singleton->XB,filterMap_nil->XC,set_cons_zero->XD,map_cons->XE,getElem?_append_right->XF,drop_eq_getElem_cons->XH,map_nil->XI,length_take->XJ,append_nil->XL,foldl_cons->XM,take_zero->XN,all_cons->XP,map_congr_left->XQ,flatMap_append->XR,filterMap_cons->XS,all_nil->XT
open Go.Ab.Tryz renaming abEnv->zO
open Nat renaming lt_of_lt_of_le->Xb,zero_le->Xe,lt_of_succ_le->Xj,le_trans->Xl,le_refl->Xs,zero_ne_one->Xx,zero_add->Xz,add_sub_cancel_left->XK,zero_mul->XU,mul_one->XV,one_mul->XW
open Bool renaming and_true->Xf
open Int renaming toNat_natCast->Xh,eq_ofNat_of_zero_le->Xq,le_refl->XA,lt_of_le_sub_one->XO
open Function renaming comp_def->XG
set_option maxHeartbeats 4000000
set_option linter.defProp false
set_option linter.unusedVariables false
set_option linter.unusedSimpArgs false
section
namespace Go.Ab
open Go.Proofs
set_option maxRecDepth 10000
structure gc(h:Hp)(nb:Nat)(p:Value)(N:Nat)(m:List Int)(c:Nat->Nat):Prop where
 at0:ja h nb p m
 len:m.length=N
 val: ∀v,v<N->m.getD v 0=(c v:Int)
theorem gc.gr{h a:Hp}{b N:Nat}{p:Value}{m:List Int}{c:Nat->Nat}(x:gc h b p N m c)(g:Gr h a):gc a b p N m c:=⟨x.at0.gr g,x.len,x.val⟩
theorem gc.keep{h a:Hp}{d N:Nat}{p:Value}{m:List Int}{c:Nat->Nat}(e:h.t.Sized h.n)(x:gc h d p N m c)(g:eP h a):gc a d p N m c:=by obtain⟨b,v,rfl,r,s,f,i⟩:=x.at0;exact⟨⟨b,v,rfl,g.row e r,s.keep e g,f,i⟩,x.len,x.val⟩
theorem ss{h0:Hp}(e:h0.t.Sized h0.n){f N:Nat}{p:Value}{m:List Int}{c:Nat->Nat}(x:gc h0 f p N m c){v:Nat}(g:v<N):aN zO 59 [p,.int .i64 (v:Nat)] h0 (.int .i64 (c v:Nat)):=by
 have S:=Si e;obtain⟨b,t,rfl,r,s,_,_⟩:=x.at0;have h:=r.load1 (o:=0) rfl;have u:=x.len;have j: ¬(v:Int)<0:=by omega
 have k: ¬(m.length:Int)<=(v:Int):=by omega
 obtain⟨d,o,l,a⟩:=s.ix (kd:=.i64) (bG .i64) (i:=v) (by omega);have q:m[v]'(by omega)=(c v:Int):=by rw [<-x.val v g,Xa,Xc (by omega)];rfl
 rw [q]at a;replace a:h0.load d o 1=some [.int .i64 (c v:Nat)]:=a;refine aa (n:=27) (rs:=[.tmp 4]) rfl Tryz.e59 rfl rfl rfl (lbt rfl) ?_;simp only [BZ,ab,j,h,s.lenq,k,l,a,seval];exact S.gr
theorem inside_ok{h0:Hp}(z:h0.t.Sized h0.n){B C q N:Nat}{p:Value}{d:Gra}{m:List Int}{c:Nat->Nat}(j:Good d)(D:aX h0 B (ptrTo q) d)(x:gc h0 C p d.nodes m c){k a:Nat}(l:a<d.arcs.length):
 aN zO 190 [ptrTo q,p,.int .i64 (k:Nat),.int .i64 (a:Nat)] h0 (.bool (decide (c (d.arcs.getD a default).s=k/\c (d.arcs.getD a default).t=k))):=by
 have S:=Si z;have J:Fl p:=by obtain⟨b,_,rfl,_⟩:=x.at0;exact cP
 have r:d.arcs[a]=d.arcs.getD a default:=by simp [Xa,l]
 have E:d.arcs.getD a default∈d.arcs:=by rw [<-r];exact Xd l
 obtain⟨s,t,_⟩:=j.arcs _ E;refine aa (n:=34) (rs:=[.tmp 8]) rfl Tryz.e190 rfl rfl rfl (lbt rfl) ?_;simp only [BZ,seval];refine step_ret (lU S.ok D l) ?_;rintro K h ⟨F,rfl⟩;replace S:=S.call F;rw [r];generalize d.arcs.getD a default=A at s t;simp only [BZ,dw,seval];refine ac ay S ?_;clear S;intro h u S v;simp only [BZ,seval];refine aC (S.store (i:=0) rfl ?_ ?_ rfl rfl ?_ ono) ?_
 . exact(by exact Tryz.t139.2.1)
 . exact(by intro x e;cases e)
 . exact lbt rfl
 clear S;rintro h ⟨S,G⟩;clear G;simp only [LC,ae,lay,Xn,Xo,seval]at S;simp only [BZ,S.ld (b:=u) (o:=0) m0 rfl,seval];refine ag (ss S.ok (x.gr S.gr) s) ?_;intro L H;replace S:=S.call H;by_cases w:c A.s=k
 . have f:(c A.s:Int)=(k:Int):=(by omega);simp only [BZ,f,S.ld (b:=u) (o:=1) m0 rfl,seval];refine ag (ss S.ok (x.gr S.gr) t) ?_;intro M I;replace S:=S.call I;by_cases y:c A.t=k
   . have g:(c A.t:Int)=(k:Int):=(by omega);simp only [BZ,ab,g,seval];exact⟨by rw [decide_eq_true ⟨w,y⟩],S.gr⟩
   . have g: ¬(c A.t:Int)=(k:Int):=(by omega);simp only [BZ,ab,g,seval];exact⟨by rw [decide_eq_false (fun h=>y h.2)],S.gr⟩
 . have f: ¬(c A.s:Int)=(k:Int):=(by omega);simp only [BZ,ab,f,seval];exact⟨by rw [decide_eq_false (fun h=>w h.1)],S.gr⟩
end Go.Ab
end
section
namespace Go.Ab
open Go.Proofs
set_option maxRecDepth 10000
theorem pairN{x:Option Tch}:jI none x=true:=by cases x<;>rfl
theorem eP.grk{hq h0 h:Hp}(k:eP hq h0)(n:hq.n<=h0.n)(g:Gr h0 h):eP hq h:=fun b a=>(g.get b (Xb a n)).trans (k b a)
def HoldP(E:Env)(hq:Hp)(g:FuncId)(post:List Value)(N:Nat)(f:Nat->Bool):Prop:= ∀h,h.t.Sized h.n->eP hq h->hq.n<=h.n-> ∀v,v<N->aN E g ([.int .i64 (v:Nat)]++post) h (.bool (f v))
theorem indexI_ok{hq h0:Hp}(a:h0.t.Sized h0.n)(s:eP hq h0)(p:hq.n<=h0.n){v:Value}{xs:List Nat}{N:Nat}{g:FuncId}{post:Array Value}{f:Nat->Bool}(l:av h0 1 cq v xs)(D:xs.length<=1000)(t: ∀x∈xs,x<N)(hf:HoldP zO hq g post.toList N f):
 Ret zO 238 [v,.func (.func g) #[] post] h0 fun r u=>Gr h0 u/\ ∃z:Int,r=.int .i64 z/\(0<=z↔xs.any f=true):=by
 have S:=Si a;have E:=l.fl;refine aa (n:=19) (rs:=[.tmp 4]) rfl Tryz.e238 rfl rfl rfl (lbt rfl) ?_;simp only [BZ,l.lenq,seval];refine aV (fun(i:Nat) b h=>i<=xs.length/\Gr h0 h/\(∀j,(k:j<xs.length)->j<i->f xs[j]=false)/\b 0=v/\b 1=.func (.func g) #[] post/\b 7=.int .i64 (xs.length:Nat)/\b 8=.int .i64 i) (fun i=>xs.length-i) ?_ 0 _ _ ?_
 . clear S;intro i y b h ⟨hi,g1,hno,r0,r1,r7,r8⟩;have w:am .i64 ((i:Int)+1)=((i+1:Nat):Int):=(by rw [wrap64]<;>omega);by_cases hlt:i<xs.length
   . obtain⟨c,o,A,m⟩:=(l.gr g1).ix (kd:=.i64) dV hlt;replace m:h.load c o 1=some [.int .i64 (xs[i]:Nat)]:=m;simp only [BZ,r0,r1,r7,r8,az,hlt,A,m,seval];refine ag (hf _ g1.ok (s.grk p g1) (Xl p g1.n) xs[i] (t _ (Xd hlt))) ?_;intro F q;cases d:f xs[i]with
     | true=>
       simp only [BZ,ab,seval];refine⟨g1.trans q,_,rfl,⟨fun _=>List.any_eq_true.2 ⟨_,Xd hlt,d⟩,fun _=>by omega⟩⟩
     | false=>
       simp only [BZ,r8,w,seval];refine y (i+1) _ _ (by omega) ⟨by omega,g1.trans q,fun j k B=>?_,by simp [aw,r0,r1,r7]⟩;by_cases e:j=i
       . subst e;exact d
       . exact hno j k (by omega)
   . simp only [BZ,ab,r7,r8,az,hlt,seval];refine⟨g1,_,rfl,⟨fun h=>by omega,fun h=>?_⟩⟩;obtain⟨x,C,d⟩:=List.any_eq_true.1 h;obtain⟨j,k,e⟩:=Xt C;rw [<-e,hno j k (by omega)]at d;cases d
 . exact⟨Xe _,Gr.refl a,fun j _ h=>by omega,by simp [aw,dh]⟩
theorem AX{hq h0:Hp}(a:h0.t.Sized h0.n)(j:eP hq h0)(k:hq.n<=h0.n){v:Value}{xs:List Nat}{N:Nat}{g:FuncId}{post:Array Value}{f:Nat->Bool}(d:av h0 1 cq v xs)(l:xs.length<=1000)(m: ∀x∈xs,x<N)(hf:HoldP zO hq g post.toList N f):
 aN zO 176 [v,.func (.func g) #[] post] h0 (.bool (xs.any f)):=by
 have S:=Si a;have o:=d.fl;refine aa (n:=9) (rs:=[.tmp 4]) rfl Tryz.e176 rfl rfl rfl (lbt rfl) ?_;simp only [BZ,seval];refine step_ret (indexI_ok a j k d l m hf) ?_;rintro r h ⟨e,z,rfl,i⟩;cases b:xs.any f with
 | true=>have c:=i.2 b;simp only [BZ,ab,c,seval];exact e| false=>
   have c: ¬0<=z:=fun h=>(by rw [i.1 h]at b;cases b);simp only [BZ,ab,c,seval];exact e
section
variable{hq:Hp}{γ:Gra}{nb mb bp k:Nat}{p:Value}{m:List Int}{c:Nat->Nat}
def beyB(γ:Gra)(c:Nat->Nat)(k a:Nat):Bool:=!decide (c (γ.arcs.getD a default).s=k)
theorem beyond_ok(f:hq.t.Sized hq.n)(u:Good γ)(I:aX hq nb (ptrTo bp) γ)(x:gc hq mb p γ.nodes m c){b1 b2 w:Nat}(J:hq.load b1 0 1=some [ptrTo bp])(y:hq.load b2 0 1=some [p])(z:hq.load w 0 1=some [.int .i64 (k:Nat)]):
 HoldP zO hq 243 [ptrTo b1,ptrTo b2,ptrTo w] γ.arcs.length (beyB γ c k):=by
 intro h K g L a v;have S:=Si K;have B:γ.arcs[a]=γ.arcs.getD a default:=by simp [Xa,v]
 have M:γ.arcs.getD a default∈γ.arcs:=by rw [<-B];exact Xd v
 obtain⟨C,N,_⟩:=u.arcs _ M;refine aa (n:=24) (rs:=[.tmp 5]) rfl Tryz.e243 rfl rfl rfl (lbt rfl) ?_;simp only [BZ,g.load f J,seval];refine step_ret (lU S.ok (I.keep f g) v) ?_;rintro R T ⟨O,rfl⟩;replace S:=S.call O;unfold beyB;rw [B];generalize γ.arcs.getD a default=A at C N;simp only [BZ,dw,seval];refine ac ay S ?_;clear S;intro h D S E;simp only [BZ,seval];refine aC (S.store (i:=0) rfl ?_ ?_ rfl rfl ?_ ono) ?_
 . exact(by exact Tryz.t139.2.1)
 . exact(by intro x e;cases e)
 . exact lbt rfl
 clear S;rintro h ⟨S,P⟩;clear P;simp only [LC,ae,lay,Xn,Xo,seval]at S;have l:=g.grk L S.gr;obtain⟨b,U,rfl,r,s,_,_⟩:=(x.keep f l).at0;have F:=r.load1 (o:=0) rfl;have V:=x.len;obtain⟨d,o,G,t⟩:=s.ix (kd:=.i64) (bG .i64) (i:=A.s) (by omega);have Q:m[A.s]'(by omega)=(c A.s:Int):=by rw [<-x.val A.s C,Xa,Xc (by omega)];rfl
 rw [Q]at t;simp only [encI]at t;simp only [BZ,seval];refine ar (ax rfl) (q:=0) (ps:=[]) (by kernel_rfl) ?_;by_cases H:c A.s=k
 . have j:(c A.s:Int)=(k:Int):=(by omega);simp only [BZ,cls,ab,l.load f y,l.load f z,F,G,t,j,S.ld (b:=D) (o:=0) m0 rfl,seval];exact⟨by rw [decide_eq_true H];rfl,S.gr⟩
 . have j: ¬(c A.s:Int)=(k:Int):=(by omega);simp only [BZ,cls,ab,l.load f y,l.load f z,F,G,t,j,S.ld (b:=D) (o:=0) m0 rfl,seval];exact⟨by rw [decide_eq_false H];rfl,S.gr⟩
def borB(γ:Gra)(c:Nat->Nat)(k v:Nat):Bool:=decide (c v=k)&&(outs γ.arcs Arc.t γ.arcs.length v).any (beyB γ c k)
theorem AT{v:Nat}:borB γ c k v=true↔c v=k/\ ∃e∈γ.arcs,e.t=v/\c e.s≠k:=by
 unfold borB;rw [Bool.and_eq_true,decide_eq_true_eq,List.any_eq_true];refine and_congr_right fun _=>?_;constructor
 . rintro⟨a,j,d⟩;obtain⟨b,f⟩:=gC.1 j;have l:γ.arcs.getD a default∈γ.arcs:=(by rw [Xa,Xc b];exact Xd b);refine⟨_,l,f,fun e=>?_⟩;unfold beyB at d;rw [decide_eq_true e]at d;cases d
 . rintro⟨e,n,b,f⟩;obtain⟨i,g,o⟩:=Xt n;have h:γ.arcs.getD i default=e:=(by rw [Xa,Xc g,o];rfl);refine⟨i,gC.2 ⟨g,by rw [h];exact b⟩,?_⟩;unfold beyB;rw [h,decide_eq_false f];rfl
theorem CY(f:hq.t.Sized hq.n)(j:Good γ)(B:aX hq nb (ptrTo bp) γ)(x:gc hq mb p γ.nodes m c){b1 b2 y b4:Nat}(C:hq.load b1 0 1=some [p])(D:hq.load b2 0 1=some [.int .i64 (k:Nat)])(E:hq.load y 0 1=some [ptrTo bp])(l4:hq.load b4 0 1=some [.func (.func 243) #[] #[ptrTo y,ptrTo b1,ptrTo b2]]):
 HoldP zO hq 245 [ptrTo b1,ptrTo b2,ptrTo y,ptrTo b4] γ.nodes (borB γ c k):=by
 intro h l g F v G;have S:=Si l;obtain⟨b,vm,rfl,r,s,_,_⟩:=(x.keep f g).at0;have H:=r.load1 (o:=0) rfl;have hl:=x.len;obtain⟨d,o,I,w⟩:=s.ix (kd:=.i64) (bG .i64) (i:=v) (by omega);have ev:m[v]'(by omega)=(c v:Int):=by rw [<-x.val v G,Xa,Xc (by omega)];rfl
 rw [ev]at w;replace w:h.load d o 1=some [.int .i64 (c v:Nat)]:=w;have z:=g.load f C;have A:=g.load f D;have J:=g.load f E;have K:=g.load f l4;have L:=bC l z;have M:=bC l A;have N:=bC l J;have O:=bC l K;have P:=r.lt l;have Q:=bC l w;unfold borB;by_cases R:c v=k
 . have t:(c v:Int)=(k:Int):=(by omega);refine aa (n:=23) (rs:=[.tmp 6]) rfl Tryz.e245 rfl rfl rfl (lbt rfl) ?_;simp only [BZ];refine ar (ax rfl) (q:=0) (ps:=[(12,13)]) (by kernel_rfl) ?_;simp only [BZ,cls,z,A,J,H,I,w,t,seval];refine cu (Ay S.ok (B.keep f g) (by have:=j.many;omega) G) ?_;rintro vl h2 ⟨e,sl,_⟩;have T:=ao e L;have U:=ao e M;have V:=ao e N;have W:=ao e O;have X:=ao e P;have Y:=ao e Q;replace S:=S.call e;simp only [BZ,cls,e.load K,seval];refine bM (AX S.ok (g.grk F e) (Xl F e.n) sl (by have:=j.many;have:=lE γ.arcs Arc.t γ.arcs.length v;omega) (fun a ha=>(gC.1 ha).1) (post:=#[ptrTo y,ptrTo b1,ptrTo b2]) (beyond_ok f j B x E C D)) ?_;intro h3 u;have Z:=ao u (Xb L e.n);have w2:=ao u (Xb M e.n);have w3:=ao u (Xb N e.n);have w4:=ao u (Xb O e.n);have wb:=ao u (Xb P e.n);have wd:=ao u (Xb Q e.n);replace S:=S.call u;simp only [BZ,cls,ab,seval];refine⟨by simp only [aK,aS,aH,aU,aJ,ne_eq,not_false_eq_true,aW,aZ,aT,aM,bA,ca,aD,Xf,ah,cD,dK,aF T,aF U,aF V,aF W,aF X,aF Y,aB T,aB U,aB V,aB W,aB X,aB Y,aF Z,aF w2,aF w3,aF w4,aF wb,aF wd,aB Z,aB w2,aB w3,aB w4,aB wb,aB wd,seval],?_⟩;exact⟨by rw [decide_eq_true R,Bool.true_and],S.gr⟩
 . have t: ¬(c v:Int)=(k:Int):=(by omega);refine aa (n:=23) (rs:=[.tmp 6]) rfl Tryz.e245 rfl rfl rfl (lbt rfl) ?_;simp only [BZ];refine ar (ax rfl) (q:=0) (ps:=[(12,13)]) (by kernel_rfl) ?_;simp only [BZ,cls,ab,z,A,H,I,w,t,seval];refine⟨by simp only [aK,aS,aH,aU,aJ,ne_eq,not_false_eq_true,aW,aZ,aT,aM,bA,ca,aD,Xf,ah,cD,dK,jo,pairN,seval],?_⟩;exact⟨by rw [decide_eq_false R,Bool.false_and],S.gr⟩
end
end Go.Ab

end
section
namespace Go.Ab
open Go.Proofs
set_option maxRecDepth 10000
theorem cnodes_ok{h0:Hp}(e:h0.t.Sized h0.n){p c:Value}(f:Fl p)(g:Fl c):Ret zO 244 [p,c] h0 fun v d=>Gr h0 d/\ ∃b1 b2,v=.func (.func 265) #[] #[ptrTo b1,ptrTo b2]/\h0.n<=b1/\h0.n<=b2/\d.load b1 0 1=some [p]/\d.load b2 0 1=some [c]:=by have S:=Si e;refine aa (n:=6) (rs:=[.tmp 4]) rfl Tryz.e244 rfl rfl rfl (lbt rfl) ?_;simp only [BZ,seval];refine ac (bW (by assumption)) S ?_;clear S;intro h b1 S a;simp only [BZ,if_false,seval];refine ac (bW (by assumption)) S ?_;clear S;intro h b2 S b;simp only [BZ,ab,seval];exact⟨S.gr,b1,b2,rfl,a,b,S.ld m1 rfl,S.ld m0 rfl⟩
theorem cnodes_it {hq h0:Hp} (l:hq.t.Sized hq.n) (j:h0.t.Sized h0.n) (B:eP hq h0) (q:hq.n<=h0.n) {H N:Nat} {p:Value} {m:List Int} {c:Nat->Nat} (x:gc hq H p N m c) (S:N<=1000) {b1 b2:Nat} {g:FuncId} {post:Array Value} {f:Nat->Bool} (hf:HoldP zO hq g post.toList N f)
 (I:h0.load b1 0 1=some [p]) (K:h0.load b2 0 1=some [.func (.func g) #[] post]):
 mi zO 265 [] [ptrTo b1,ptrTo b2] h0 (fun c=>c=b1\/c=b2\/c<hq.n) (((zM N).filter f).map fun(v:Nat)=>[.int .i64 (v:Nat)]):=by
 intro L J Z M Y h F s d;have C:=s.load j I (.inl rfl);obtain⟨b,T,rfl,r,D,_,_⟩:=(x.keep l (s.keep B q (fun c t=>.inr (.inr t)))).at0;have E:=r.load1 (o:=0) rfl;have U:=x.len;have u:(m.length:Int)=(N:Int):=by omega
 refine enter (n:=25) (rs:=[]) rfl Tryz.e265 rfl rfl rfl (lbt rfl) ?_;simp only [BZ,C,E,D.lenq,u,seval];refine aV (fun(i:Nat) e h=>i<=N/\ ∃F,ItS h0 (fun c=>c=b1\/c=b2\/c<hq.n) h F/\J ((zM i).filter f).length h F/\e 0=.func (.yield L) #[] #[]/\e 1=ptrTo b1/\e 2=ptrTo b2/\e 11=.int .i64 (N:Nat)/\e 12=.int .i64 i) (fun i=>N-i) ?_ 0 _ _ ?_
 . clear C s d F r D E h;intro i G e h ⟨hi,F,s,d,r0,r1,r2,r11,r12⟩;have w:am .i64 ((i:Int)+1)=((i+1:Nat):Int):=(by rw [wrap64]<;>omega);by_cases hlt:i<N
   . have O:=s.load j K (.inr (.inl rfl));simp only [BZ,r2,r11,r12,az,hlt,O,seval];refine ag (hf _ s.ok (s.keep B q (fun c t=>.inr (.inr t))) (Xl q s.n) i hlt) ?_;intro V k;cases y:f i with
     | true=>
       have P:(((zM N).filter f).map fun(v:Nat)=>[Value.int .i64 (v:Nat)])[((zM i).filter f).length]? =some [.int .i64 (i:Nat)]:=(by rw [Xk,sq y _ hlt];rfl);have z:((zM (i+1)).filter f).length=((zM i).filter f).length+1:=(by rw [jw,if_pos y];simp);simp only [BZ,r0,seval];refine cZ Y (s.gr k) (Y.gr _ _ _ _ d k) (i:=((zM i).filter f).length) P ?_ ?_ ?_
       . intro A Q a R _ _;simp only [BZ,r12,w,seval];exact G (i+1) _ _ (by omega) ⟨by omega,Q,R,by rw [z];exact a,by simp [aw,r0,r1,ah,r2,r11]⟩
       . intro A a _;simp only [BZ,seval];exact gy rfl ⟨rfl,.inr (.inl ⟨_,rfl,a⟩)⟩
       . intro v A a;exact absurd a (M v A)
     | false=>have z:(zM (i+1)).filter f=(zM i).filter f:=(by rw [jw,if_neg (by rw [y];decide)];simp);simp only [BZ,r12,w,seval];exact G (i+1) _ _ (by omega) ⟨by omega,F,s.gr k,by rw [z];exact Y.gr _ _ _ _ d k,by simp [aw,r0,r1,ah,r2,r11]⟩
   . simp only [BZ,r11,r12,az,hlt,seval];have:i=N:=(by omega);subst this;exact cy (cJ ⟨rfl,_,rfl,rfl,.inl ⟨_,F,rfl,by simpa using d⟩⟩)
 . exact⟨Xe _,F,s,d,by simp [aw,dh,ah]⟩
theorem border_ok{h0:Hp}(z:h0.t.Sized h0.n){a:Gra}{T U E k:Nat}{p:Value}{m:List Int}{c:Nat->Nat}(j:Good a)(F:aX h0 T (ptrTo E) a)(x:gc h0 U p a.nodes m c):
 Ret zO 191 [p,ptrTo E,.int .i64 (k:Nat)] h0 fun r G=>Gr h0 G/\av G 1 cq r ((zM a.nodes).filter (borB a c k))/\ ∀c,aq r c->h0.n<=c:=by
 have S:=Si z;have fp:Fl p:=by obtain⟨b,_,rfl,_⟩:=x.at0;exact cP
 obtain⟨bc,V,rfl,r,s,_,_⟩:=x.at0;have W:=r.load1 (o:=0) rfl;have X:=x.len;have Y:=j.n1;have n2:=j.n2;have A:(m.length:Int)=(a.nodes:Int):=by omega
 obtain⟨H,ov,sv,cv,Z⟩: ∃d o s c,V=.slice (some ⟨d,o,s⟩) m.length c:=by
  rcases s with⟨_,e⟩|⟨d,o,s,c,e,_⟩
  . subst e;simp at X;omega
  . exact⟨d,o,s,c,e⟩
 subst Z;have B:H<h0.n:=s.lt z (b:=H) rfl;refine aa (n:=29) (rs:=[.tmp 6]) rfl Tryz.e191 rfl rfl rfl (lbt rfl) ?_;simp only [BZ,seval];refine ac (bW (by exact cP)) S ?_;clear S;intro h l S I;simp only [BZ,if_false,seval];refine ac (bW (by exact cP)) S ?_;clear S;intro h u S J;simp only [BZ,if_false,seval];refine ac (bW (by exact bR)) S ?_;clear S;intro h K S L;have z3:=(S.row (b:=l) m2).lt S.ok;have z4:=(S.row (b:=u) m1).lt S.ok;have zc:=Xb (r.lt z) S.gr.n;have zd:=Xb B S.gr.n;have C:=S.gr.load W;have s':=s.gr S.gr;simp only [BZ];refine ar (ax rfl) (q:=0) (ps:=[(8,13),(8,12),(8,9)]) (by kernel_rfl) ?_;simp only [BZ,cls,S.ld (b:=l) (o:=0) m2 rfl,S.ld (b:=u) (o:=0) m1 rfl,seval];refine bM (bS S.ok (F.gr S.gr)) ?_;intro h1 t;have M:=ao t z3;have N:=ao t z4;have O:=ao t zc;have P:=ao t zd;have w:=t.load C;replace S:=S.call t;simp only [BZ,cls,w,s'.lenq,A,S.ld (b:=l) (o:=0) m2 rfl,S.ld (b:=u) (o:=0) m1 rfl,seval];refine⟨by simp only [aK,aS,aH,aU,aJ,ne_eq,not_false_eq_true,aW,aZ,aT,aM,bA,ca,aD,Xf,ah,zz,aF M,aF N,aF O,aB M,aB N,aB O,aF P,aB P,seval],?_⟩;refine ac ay S ?_;clear S;intro h Q S R;simp only [BZ,seval];refine aC (aA S (i:=0) rfl Tryz.t127.2.1 fT (Xj (lbt rfl)) ono) ?_;clear S;rintro h2 ⟨S,_⟩;simp only [LC]at S;simp only [BZ,S.ld (b:=l) (o:=0) m3 rfl,seval];have D:=S.gr;have y:=S.ok;have l3:=S.ld (b:=l) (o:=0) m3 rfl;have l4:=S.ld (b:=u) (o:=0) m2 rfl;have l5:=S.ld (b:=K) (o:=0) m1 rfl;have l7:=S.ld (b:=Q) (o:=0) m0 rfl;have hf:=CY y j (F.gr D) (x.gr D) l3 l5 l4 l7;refine step_ret (cnodes_ok S.ok cP fT) ?_;rintro v h4 ⟨g,b1,b2,rfl,Y,ad,y1,y2⟩;have it:=cnodes_it y g.ok g.keep g.n (x.gr D) (by omega) (g:=245) (post:=#[ptrTo l,ptrTo K,ptrTo u,ptrTo Q]) hf y1 y2;replace S:=S.call g;simp only [BZ,seval];refine step_ret (um S.ok (g:=265) (post:=#[ptrTo b1,ptrTo b2]) (iter_w it) (fun _ h=>h.elim) (by have:=qO (n:=a.nodes) (f:=borB a c k);omega)) ?_;rintro r h5 ⟨f5,G5,d5⟩;have g5:=f5.gr;have k5:=S.fr.n;replace S:=S.call g5;simp only [BZ,ab,seval];exact⟨S.gr,G5.sl rfl dV (by decide),fun c hc=>by have:=d5 c hc;omega⟩
theorem Cs{h0:Hp}(d:h0.t.Sized h0.n){a:Gra}{e c b:Nat}(f:aX h0 e (ptrTo c) a)(j:b<a.nodes):aN zO 266 [ptrTo c,.int .i64 (b:Nat)] h0 (.bool true):=by
 have S:=Si d;have g:(0:Int)<=(b:Int):=by omega
 have h:(b:Int)<(a.nodes:Int):=by omega
 refine aa (n:=17) (rs:=[.tmp 4]) rfl Tryz.e266 rfl rfl rfl (lbt rfl) ?_;simp only [BZ,g,seval];refine ag (bS S.ok f) ?_;intro k i;simp only [BZ,ab,h,seval];exact i
noncomputable def jd(c:Gra)(b a:Nat):Bool:=decide (dOf (seen c.arcs Arc.t Arc.s) b (c.arcs.getD a default).s<FAR/\dOf (seen c.arcs Arc.t Arc.s) b (c.arcs.getD a default).t<FAR/\dOf (seen c.arcs Arc.t Arc.s) b (c.arcs.getD a default).s=(c.arcs.getD a default).w+dOf (seen c.arcs Arc.t Arc.s) b (c.arcs.getD a default).t)
def HoldA(E:Env)(hq:Hp)(x:Nat)(g:FuncId)(post:List Value)(N:Nat)(f:Nat->Bool):Prop:= ∀h,h.t.Sized h.n->(∀b,b<hq.n->b≠x->h.get b=hq.get b)->hq.n<=h.n-> ∀v,v<N->aN E g ([.int .i64 (v:Nat)]++post) h (.bool (f v))
theorem lz{h a:Hp}{b o n:Nat}{l:List Value}(e:h.load b o n=some l)(g:a.get b=h.get b):a.load b o n=some l:=by unfold Hp.load at e⊢;rw [g];exact e
theorem sl_get{a:Type}{h d:Hp}{k:Nat}{enc:a->List Value}{v:Value}{xs:List a}(s:av h k enc v xs)(g: ∀c,aq v c->d.get c=h.get c):av d k enc v xs:=by
 rcases s with s|⟨b,o,s,c,e,f,i⟩
 . exact .inl s
 . exact .inr ⟨b,o,s,c,e,f,lz i (g b (by rw [e];rfl))⟩
theorem tells1_ok{g hq:Hp}(C:g.t.Sized g.n)(j:hq.t.Sized hq.n)(W:eP g hq)(L:g.n<=hq.n){x:Nat}(hx:g.n<=x){f:Gra}(D:Good f){X M b b2 b5:Nat}(Y:aX g X (ptrTo M) f)(z:b2≠x)(Z:b5≠x)(N: ∀v,IsD (seen f.arcs Arc.t Arc.s) b v (dOf (seen f.arcs Arc.t Arc.s) b v)){B vA vO:Value}(O:hq.load b2 0 1=some [ptrTo M])(P:hq.load b5 0 1=some [B])(Q:av hq 1 cq B ((zM f.nodes).map (dOf (seen f.arcs Arc.t Arc.s) b)))(xD: ∀c,aq B c->c≠x):
 HoldA zO hq x 280 [ptrTo b2,ptrTo b5] f.arcs.length (jd f b):=by
 intro h ok k nq a E;have kN:eP g h:=fun c r=>(k c (Xb r L) (by omega)).trans (W c r);have nN:g.n<=h.n:=Xl L nq;have e2:=lz O (k b2 (bC j O) z);have e5:=lz P (k b5 (bC j P) Z);have s:av h 1 cq B _:=sl_get Q (fun c r=>k c (Q.lt j r) (xD c r));have S:=Si ok;have R:f.arcs[a]=f.arcs.getD a default:=by simp [Xa,E]
 have hm:f.arcs.getD a default∈f.arcs:=by rw [<-R];exact Xd E
 obtain⟨hs,ht,hw⟩:=D.arcs _ hm;unfold jd;have F:=N (f.arcs.getD a default).s;have G:=N (f.arcs.getD a default).t;generalize hd:dOf (seen f.arcs Arc.t Arc.s) b=d at F G s;refine aa (n:=35) (rs:=[.tmp 4]) rfl Tryz.e280 rfl rfl rfl (lbt rfl) ?_;simp only [BZ,e2,seval];refine step_ret (lU S.ok (Y.keep C kN) E) ?_;rintro rv h4 ⟨g4,rfl⟩;replace S:=S.call g4;rw [R];generalize f.arcs.getD a default=A at hs ht hw F G;simp only [BZ,dw,seval];refine ac ay S ?_;clear S;intro h t S T;simp only [BZ,seval];refine aC (S.store (i:=0) rfl ?_ ?_ rfl rfl ?_ ono) ?_
 . exact(by exact Tryz.t139.2.1)
 . exact(by intro x e;cases e)
 . exact lbt rfl
 clear S;rintro h ⟨S,mo⟩;clear mo;simp only [LC,ae,lay,Xn,Xo,seval]at S;have u:=s.gr S.gr;have lD:((zM f.nodes).map d).length=f.nodes:=by simp
 obtain⟨c1,o1,x1,H⟩:=u.ix (kd:=.i64) dV (i:=A.t) (by omega);obtain⟨c2,o2,z,U⟩:=u.ix (kd:=.i64) dV (i:=A.s) (by omega);simp only [List.getElem_map,List.getElem_range,cq]at H U;have I:=S.gr.load e5;have z6:=(S.row (b:=t) m0).lt S.ok;have z5:=bC S.ok I;have zc:=bC S.ok H;simp only [BZ,seval];refine ar (ax rfl) (q:=0) (ps:=[]) (by kernel_rfl) ?_;simp only [BZ,cls,I,x1,H,S.ld (b:=t) (o:=1) m0 rfl,S.ld (b:=t) (o:=2) m0 rfl,seval];refine bM (add_ok S.ok) ?_;intro h7 p;have v6:=ao p z6;have v5:=ao p z5;have vc:=ao p zc;replace S:=S.call p;simp only [BZ,cls,seval];have ad:=dR;have b1:=F.le;have b2:=G.le;have J:wy (wy (wy (d A.t:Nat))+wy (A.w:Nat))=(if d A.t+A.w<FAR then((d A.t+A.w:Nat):Int)else(FAR:Int)):=by
  unfold wy
  repeat' split
  all_goals omega
 rw [J];have w:=p.load I;have y:=p.load U;by_cases hf:d A.t+A.w<FAR
 . rw [if_pos hf];have w1:wy ((d A.t+A.w:Nat):Int)<72057594037927936:=(by unfold wy;omega);have K:decide (wy ((d A.t+A.w:Nat):Int)<72057594037927936)=true:=decide_eq_true w1;refine ag (qs S.ok) ?_;intro h8 l;replace S:=S.call l;rw [K];by_cases V:d A.s=A.w+d A.t
   . have m:((d A.t+A.w:Nat):Int)=(d A.s:Int):=(by omega);simp only [BZ,ab,l.load w,z,l.load y,m,S.ld (b:=t) (o:=0) m0 rfl,seval];exact⟨by rw [decide_eq_true ⟨by omega,by omega,V⟩],S.gr⟩
   . have m: ¬((d A.t+A.w:Nat):Int)=(d A.s:Int):=(by omega);simp only [BZ,ab,l.load w,z,l.load y,m,S.ld (b:=t) (o:=0) m0 rfl,seval];exact⟨by rw [decide_eq_false (fun h=>V h.2.2)],S.gr⟩
 . rw [if_neg hf];have K:decide (wy (FAR:Int)<72057594037927936)=false:=decide_eq_false (by unfold wy;omega);refine ag (qs S.ok) ?_;intro h8 l;replace S:=S.call l;rw [K];simp only [BZ,ab,seval];exact⟨by rw [decide_eq_false (fun h=>by omega)],S.gr⟩
theorem tells_ok{h0 a:Hp}(k:a.t.Sized a.n)(B:h0.t.Sized h0.n)(q:Gr a h0){x:Nat}(C:a.n<=x)(E:x<h0.n){d:Gra}(f:Good d){F s b:Nat}(t:aX a F (ptrTo s) d)(G:b<d.nodes):
 Ret zO 269 [ptrTo s,.int .i64 (b:Nat)] h0 fun r u=>Gr h0 u/\ ∃b2 b5,r=.func (.func 280) #[] #[ptrTo b2,ptrTo b5]/\h0.n<=b2/\h0.n<=b5/\HoldA zO u x 280 [ptrTo b2,ptrTo b5] d.arcs.length (jd d b):=by
 have S:=Si B;refine aa (n:=10) (rs:=[.tmp 4]) rfl Tryz.e269 rfl rfl rfl (lbt rfl) ?_;simp only [BZ,seval];refine ac (bg (by intro x e;cases e)) S ?_;clear S;intro h b2 S g;simp only [ae]at S;simp only [BZ,S.ld (b:=b2) (o:=0) m0 rfl,seval];refine step_ret (rN S.ok f (t.gr (q.trans S.gr)) G) ?_;rintro r R ⟨H,T,vA,vO,D,U,O,rfl,l,I,J,_,w,K,_⟩;have V:=S.fr.n;replace S:=S.call H;have L:=l.fl;have M:=I.fl;have N:=J.fl;have y:D=dOf (seen d.arcs Arc.t Arc.s) b:=funext fun v=>((vu (w v)).1).symm;have m: ∀v,IsD (seen d.arcs Arc.t Arc.s) b v (dOf (seen d.arcs Arc.t Arc.s) b v):=fun v=>by rw [<-y];exact w v
 rw [y]at l;simp only [BZ];have P:=S.row (b:=b2) m0;have W:=S.fr.n;have j:=S.gr;have p:=S.ok;clear S;have S:=Si p;refine ac ay S ?_;clear S;intro h b5 S z;simp only [BZ,seval];refine aC (S.store (i:=0) rfl Tryz.t247.2.1 (by intro x e;cases e) rfl (by simp only [ae,XP,XT,L.2.1,M.2.1,N.2.1,Xf]) (lbt rfl) ono) ?_;clear S;rintro X ⟨S,_⟩;simp only [LC,ae,lay,Xn,Xo,seval]at S;simp only [BZ,ab,seval];refine⟨j.trans S.gr,b2,b5,rfl,g,by omega,?_⟩;have A:=q.trans (j.trans S.gr);exact tells1_ok k S.ok A.keep A.n C f t (by omega) (by omega) m (vA:=vA) (vO:=vO) ((P.gr S.gr).load1 (o:=0) rfl) (S.ld (b:=b5) (o:=0) m0 rfl) (l.gr S.gr) (fun c Q e=>by have:=K c (.inl Q);omega)
theorem marked_ok{h0:Hp}(e:h0.t.Sized h0.n){n:Nat}{c:Value}(f:Fl c):Ret zO 268 [.int .i64 (n:Nat),c] h0 fun v d=>Gr h0 d/\ ∃b1 b2,v=.func (.func 279) #[] #[ptrTo b1,ptrTo b2]/\h0.n<=b1/\h0.n<=b2/\d.load b1 0 1=some [.int .i64 (n:Nat)]/\d.load b2 0 1=some [c]:=by have S:=Si e;refine aa (n:=6) (rs:=[.tmp 4]) rfl Tryz.e268 rfl rfl rfl (lbt rfl) ?_;simp only [BZ,seval];refine ac (bW (by exact bR)) S ?_;clear S;intro h b1 S a;simp only [BZ,if_false,seval];refine ac (bW (by assumption)) S ?_;clear S;intro h b2 S b;simp only [BZ,ab,seval];exact⟨S.gr,b1,b2,rfl,a,b,S.ld m1 rfl,S.ld m0 rfl⟩
theorem marked_it {hq h0:Hp} (u:hq.t.Sized hq.n) (e:h0.t.Sized h0.n) (y:eP hq h0) (q:hq.n<=h0.n) {x:Nat} {N:Nat} (H:N<=1000) {b1 b2:Nat} {g:FuncId} {post:Array Value} {f:Nat->Bool} (hf:HoldA zO hq x g post.toList N f)
 (z:h0.load b1 0 1=some [.int .i64 (N:Nat)]) (A:h0.load b2 0 1=some [.func (.func g) #[] post]):
 mi zO 279 [] [ptrTo b1,ptrTo b2] h0 (fun c=>c=b1\/c=b2\/(c<hq.n/\c≠x)) (((zM N).filter f).map fun(v:Nat)=>[.int .i64 (v:Nat)]):=by
 intro B J Z C Y h F s b;have r:=s.load e z (.inl rfl);refine enter (n:=19) (rs:=[]) rfl Tryz.e279 rfl rfl rfl (lbt rfl) ?_;simp only [BZ,r,seval];refine aV (fun(i:Nat) d h=>i<=N/\ ∃F,ItS h0 (fun c=>c=b1\/c=b2\/(c<hq.n/\c≠x)) h F/\J ((zM i).filter f).length h F/\d 0=.func (.yield B) #[] #[]/\d 1=ptrTo b1/\d 2=ptrTo b2/\d 5=.int .i64 (N:Nat)/\d 6=.int .i64 i) (fun i=>N-i) ?_ 0 _ _ ?_
 . clear r s b F h;intro i t d h ⟨hi,F,s,b,r0,r1,r2,r5,r6⟩;have w:am .i64 ((i:Int)+1)=((i+1:Nat):Int):=(by rw [wrap64]<;>omega);by_cases hlt:i<N
   . have D:=s.load e A (.inr (.inl rfl));simp only [BZ,r2,r5,r6,az,hlt,D,seval];refine ag (hf _ s.ok (fun c k l=>(s.data c (Xb k q) (.inr (.inr ⟨k,l⟩))).trans (y c k)) (Xl q s.n) i hlt) ?_;intro I j;cases m:f i with
     | true=>
       have l:(((zM N).filter f).map fun(v:Nat)=>[Value.int .i64 (v:Nat)])[((zM i).filter f).length]? =some [.int .i64 (i:Nat)]:=(by rw [Xk,sq m _ hlt];rfl);have o:((zM (i+1)).filter f).length=((zM i).filter f).length+1:=(by rw [jw,if_pos m];simp);simp only [BZ,r0,seval];refine cZ Y (s.gr j) (Y.gr _ _ _ _ b j) (i:=((zM i).filter f).length) l ?_ ?_ ?_
       . intro p E a G _ _;simp only [BZ,r6,w,seval];exact t (i+1) _ _ (by omega) ⟨by omega,E,G,by rw [o];exact a,by simp [aw,r0,r1,ah,r2,r5]⟩
       . intro p a _;simp only [BZ,seval];exact gy rfl ⟨rfl,.inr (.inl ⟨_,rfl,a⟩)⟩
       . intro v p a;exact absurd a (C v p)
     | false=>have o:(zM (i+1)).filter f=(zM i).filter f:=(by rw [jw,if_neg (by rw [m];decide)];simp);simp only [BZ,r6,w,seval];exact t (i+1) _ _ (by omega) ⟨by omega,F,s.gr j,by rw [o];exact Y.gr _ _ _ _ b j,by simp [aw,r0,r1,ah,r2,r5]⟩
   . simp only [BZ,r5,r6,az,hlt,seval];have:i=N:=(by omega);subst this;exact cy (cJ ⟨rfl,_,rfl,rfl,.inl ⟨_,F,rfl,by simpa using b⟩⟩)
 . exact⟨Xe _,F,s,b,by simp [aw,dh,ah]⟩
def dU(n:Nat)(f:Nat->Bool):List Value:=(zM n).map fun j=>.bool (f j)
theorem rE{n:Nat}{f:Nat->Bool}:(dU n f).length=n:=by simp [dU]
theorem bolC_at{n j:Nat}{f:Nat->Bool}(h:j<n):(dU n f)[j]? =some (.bool (f j)):=jQ (F:=fun j=>Value.bool (f j)) h
theorem zP{n j:Nat}{f:Nat->Bool}:(dU n f).set j (.bool true)=dU n (fun u=>decide (u=j)||f u):=by have:=jx (N:=n) (k:=j) (F:=fun j=>Value.bool (f j)) (F':=fun u=>Value.bool (decide (u=j)||f u)) (fun i _ a=>by simp [a]);unfold dU;rw [<-this];simp
theorem kM{n:Nat}{f g:Nat->Bool}(h: ∀j,j<n->f j=g j):dU n f=dU n g:=by unfold dU;refine XQ fun j a=>?_;rw [h j (List.mem_range.1 a)]
theorem putB_ok{h0:Hp}(E:h0.t.Sized h0.n){d n:Nat}{f:Nat->Bool}(R:Row h0 d (dU n f) 1){g:FuncId}{post:Array Value}{D:Nat->Prop}{xs:List Nat}(M:mi zO g [] post.toList h0 D (xs.map fun(v:Nat)=>[.int .i64 (v:Nat)]))(G: ¬D d)(B: ∀x∈xs,x<n)(hl:xs.length<=1000):
 Ret zO 267 [.slice (some ⟨d,0,none⟩) n n,.func (.func g) #[] post,.bool true] h0 fun r t=>Mo (· =d) h0 t/\r=.slice (some ⟨d,0,none⟩) n n/\Row t d (dU n (fun u=>decide (u∈xs)||f u)) 1:=by
 have S:=St.init1 E (o:=.row (dU n f) 1) R;have zl:=R.lt E;refine aa (n:=15) (rs:=[.tmp 6]) rfl Tryz.e267 rfl rfl rfl (lbt rfl) ?_;simp only [BZ,seval];refine ac (bW (by exact bO)) S ?_;clear S;intro h m S H;simp only [BZ,if_false,seval];refine ac (bW (by exact lP)) S ?_;clear S;intro h w S I;simp only [BZ,if_false,seval];have N:dU n f=dU n (fun u=>decide (u∈xs.take 0)||f u):=kM fun j _=>by simp
 refine hZ S (g:=g) (a:=#[]) (b:=post) (by simp [bA,aw,ah]) rfl rfl ?_;intro J A z p O P g2;obtain⟨X,K,p⟩: ∃X:fu,X=_/\St (· =d) h0 J [(z,.loop X),(A,.dfr),(w,.row [.bool true] 1),(m,.row [.slice (some ⟨d,0,none⟩) n n] 1),(d,.row (dU n f) 1)] []:=⟨_,rfl,p⟩;have Q:Yld zO z (fun k t F=>St (· =d) h0 t [(z,.loop X),(A,.dfr),(w,.row [.bool true] 1),(m,.row [.slice (some ⟨d,0,none⟩) n n] 1),(d,.row (dU n (fun u=>decide (u∈xs.take k)||f u)) 1)] []/\k<=xs.length/\F=[z,A,w,m,d]) (fun _ _=>False) (xs.map fun(v:Nat)=>[.int .i64 (v:Nat)]):=by
  refine⟨?_,?_,fun _ _ h=>h.elim,?_⟩
  . rintro i h F ⟨S,_,rfl⟩;exact⟨S.ok,fun b l=>S.key_lt (by simpa [keys]using l)⟩
  . rintro i h F t ⟨S,a,rfl⟩ V;exact⟨S.call V,a,rfl⟩
  . rintro i x hR F C ⟨S,a,rfl⟩;have q:i<xs.length:=(by have:=(List.getElem?_eq_some_iff.1 C).1;simpa using this);rw [Xk,Xc q]at C;cases C;have s:=B _ (Xd q);have W:dU n (fun u=>decide (u∈xs.take (i+1))||f u)=(dU n (fun u=>decide (u∈xs.take i)||f u)).set xs[i] (.bool true):=(by rw [zP];refine kM fun j _=>?_;rw [Xg q];simp only [Xu,XB];by_cases Y:j=xs[i]<;>by_cases Z:j∈xs.take i<;>simp [Y,Z]);rw [W];generalize xs[i]=x at s;subst K;refine ia (S.get m0) (by rw [Tryz.e267];rfl) rfl ?_;have S0:=S;replace S:=S.base;simp only [BZ,seval];refine fU S (i:=0) rfl rfl rfl rfl rfl ?_;clear S;intro h S;simp only [LC]at S;simp only [BZ,s,S.ld (b:=m) (o:=0) m3 rfl,S.ld (b:=w) (o:=0) m2 rfl,seval];refine aC (aA S (i:=4) rfl Tryz.t4.2.2.1 lP (by rw [rE];exact s) ono) ?_;clear S;rintro h ⟨S,_⟩;simp only [LC]at S;simp only [BZ];refine eg S (i:=0) rfl ?_;clear S;intro h S;simp only [LC]at S;refine .inl ⟨rfl,_,⟨S0.rebase S,by omega,rfl⟩,?_,fun c hc=>.inl hc⟩;have:=S.fr;simp only [keys,XE,XI,XC,XL]at this;exact this
 refine eH (M z _ _ (fun _ _ h=>h) Q J [z,A,w,m,d] ?_ ⟨by rw [<-N];exact p,Xe _,rfl⟩) fun o rc t y=>jn y ?_
 . have kn:=S.fr.n;refine⟨p.ok,p.fr.n,fun b l hd=>p.fr.get b l (fun e=>G (e▸hd)),fun b l h=>?_,fun b l=>p.key_lt (by simpa [keys]using l)⟩;simp only [Xm,Xi,or_false]at l;rcases l with rfl|rfl|rfl|rfl|rfl
   . omega
   . omega
   . omega
   . omega
   . exact G h.2
 . rintro F ⟨T,_,rfl⟩;rw [Xr,Xp]at T;subst K;refine⟨_,T.get m0,Xx,?_⟩;replace T:=T.dead;have S:=T;show Run _ _ _ _ _ _ _ _;simp only [BZ,S.ld (b:=m) (o:=0) m2 rfl,seval];refine dJ (gu [A] _ (L:=[(w,_),(m,_),(d,_)]) T.base fun h4 S4=>?_);refine⟨rfl,(fQ (by decide)).2 (cK.2 ?_)⟩;have U:=T.rebase S4;exact⟨U.fr,rfl,U.row m2⟩
theorem anyT_ok {h0:Hp} (M:h0.t.Sized h0.n) {d:Gra} (l:Good d) {N y b:Nat} {z:Value} {xs:List Nat} (A:aX h0 N (ptrTo y) d) (G:b<d.nodes) (B:av h0 1 cq z xs) (m:xs=[b]):
 Ret zO 246 [ptrTo y,z] h0 fun r H=>Gr h0 H/\ ∃f,r=.slice (some ⟨f,0,none⟩) d.arcs.length d.arcs.length/\Row H f (dU d.arcs.length (jd d b)) 1/\h0.n<=f:=by
 have S:=Si M;have I:=l.many;have fL:=B.fl;have hl:xs.length=1:=by rw [m];rfl
 refine aa (n:=32) (rs:=[.tmp 4]) rfl Tryz.e246 rfl rfl rfl (lbt rfl) ?_;simp only [BZ,seval];refine ag (lW S.ok A) ?_;intro h1 O;replace S:=S.call O;simp only [BZ,seval];have C:=S.gr;have p:=S.ok;clear S;have S:=Si p;rename Hp=>hA;refine ac (kH (by exact Tryz.t103.1) (by exact Tryz.e4E) (by omega) (by omega)) S ?_;clear S;intro h f S q;have P:a9 [Value.bool false] d.arcs.length=dU d.arcs.length (fun a=>decide (0=1)&&jd d b a):=by rw [mP];unfold dU;simp [List.map_const']
 rw [Xh,P]at S;simp only [BZ,Xh,B.lenq,seval];refine aV (fun(i:Nat) k h=>i<=1/\St NoM hA h [(f,.row (dU d.arcs.length (fun a=>decide (i=1)&&jd d b a)) 1)] []/\k 0=ptrTo y/\k 5=.slice (some ⟨f,0,none⟩) d.arcs.length d.arcs.length/\k 13=z/\k 14=.int .i64 (xs.length:Nat)/\k 15=.int .i64 i) (fun i=>1-i) ?_ 0 _ _ ?_
 . clear S;intro i Q k h ⟨hi,S,r0,r5,r13,r14,r15⟩;have w:am .i64 ((i:Int)+1)=((i+1:Nat):Int):=(by rw [wrap64]<;>omega);have D:=C.trans S.gr;by_cases hlt:i<xs.length
   . have J:i=0:=(by omega);obtain⟨c,o,R,s⟩:=(B.gr D).ix (kd:=.i64) dV hlt;have T:xs[i]=b:=(by subst m;subst J;rfl);rw [T]at s;replace s:h.load c o 1=some [.int .i64 (b:Nat)]:=s;simp only [BZ,r0,r13,r14,r15,az,hlt,R,s,seval];refine ag (Cs S.ok (A.gr D) G) ?_;intro h2 U;replace S:=S.call U;have hS:=S.gr;have E:=(S.row (b:=f) m0).lt S.ok;simp only [BZ,r0,r5,seval];refine step_ret (tells_ok p S.ok S.gr (x:=f) q E l (A.gr C) G) ?_;rintro v h3 ⟨K,V,W,rfl,n2,n5,hf⟩;replace S:=S.call K;have F:=S.ok;simp only [BZ,seval];refine step_ret (marked_ok S.ok (n:=d.arcs.length) fT) ?_;rintro v h4 ⟨t,X,Y,rfl,n1,n3,Z,y3⟩;have it:=marked_it F t.ok t.keep t.n (x:=f) (by omega) (g:=280) (post:=#[ptrTo V,ptrTo W]) hf Z y3;have kg:=K.n;replace S:=S.call t;simp only [BZ,seval];refine step_ret (putB_ok S.ok (S.row (b:=f) m0) (g:=279) (post:=#[ptrTo X,ptrTo Y]) it (fun h=>?_) (fun x hx=>List.mem_range.1 (List.mem_filter.1 hx).1) (Xl qO (by omega))) ?_
     . rcases h with h|h|h
       . omega
       . omega
       . exact h.2 rfl
     . rintro v h5 ⟨f5,rfl,R5⟩;have L:=S.call1 (i:=0) (o':=.row _ 1) rfl f5 R5;simp only [XD]at L;simp only [BZ,r15,w,seval];refine Q (i+1) _ _ (by omega) ⟨by omega,?_,by simp [aw,r0,ah,r13,r14]⟩;have e:dU d.arcs.length (fun a=>decide (i+1=1)&&jd d b a)=dU d.arcs.length (fun u=>decide (u∈(zM d.arcs.length).filter (jd d b))||(decide (i=1)&&jd d b u)):=kM fun j hj=>(by subst J;simp [Xy,hj]);rw [e];exact L
   . have i1:i=1:=(by omega);simp only [BZ,ab,r5,r14,r15,az,hlt,seval];refine⟨D,f,rfl,?_,by have:=C.n;omega⟩;have e:dU d.arcs.length (jd d b)=dU d.arcs.length (fun a=>decide (i=1)&&jd d b a):=kM fun j _=>(by rw [decide_eq_true i1,Bool.true_and]);rw [e];exact S.row m0
 . exact⟨Xe _,S,by simp [aw,dh,ah]⟩
theorem arcsT_ok{h0:Hp}(j:h0.t.Sized h0.n){a:Gra}(d:Good a){k f b:Nat}(l:aX h0 k (ptrTo f) a)(m:b<a.nodes):
 Ret zO 192 [ptrTo f,.int .i64 (b:Nat)] h0 fun r g=>Gr h0 g/\ ∃c,r=.slice (some ⟨c,0,none⟩) a.arcs.length a.arcs.length/\Row g c (dU a.arcs.length (jd a b)) 1/\h0.n<=c:=by
 have S:=Si j;refine aa (n:=9) (rs:=[.tmp 4]) rfl Tryz.e192 rfl rfl rfl (lbt rfl) ?_;simp only [BZ,seval];refine ac (bV (by exact Tryz.t41.1) (by exact Tryz.e3E) (by decide) (by rfl)) S ?_;clear S;intro h e S i;simp only [LC,a9,bQ,ae,XU,Xz,XV,XW,seval]at S;simp only [BZ,seval];have p:av h 1 cq (.slice (some ⟨e,0,none⟩) 1 1) [b]:=.inr ⟨e,0,none,1,rfl,Xs _,S.lds (b:=e) (o:=0) (n:=1*1) m0 (lbt rfl)⟩;have s:=S.fr.n;refine step_ret (anyT_ok S.ok d (l.gr S.gr) m p rfl) ?_;rintro r t ⟨q,c,rfl,R,u⟩;replace S:=S.call q;simp only [BZ,ab,seval];exact⟨S.gr,c,rfl,R,by omega⟩
end Go.Ab
end
section
namespace Go.Ab
open Go.Proofs
set_option maxRecDepth 10000
def Own(B:Nat->Prop)(a h:Hp)(F:List Nat):Prop:=a.n<=h.n/\ ∀b,B b->b<a.n/\b∉F/\h.get b=a.get b
theorem Own.gr{B:Nat->Prop}{c h d:Hp}{F:List Nat}(o:Own B c h F)(g:Gr h d):Own B c d F:=
 ⟨Xl o.1 g.n,fun b a=>⟨(o.2 b a).1,(o.2 b a).2.1,(g.get b (Xb (o.2 b a).1 o.1)).trans (o.2 b a).2.2⟩⟩
theorem Own.mo{B:Nat->Prop}{a h c:Hp}{F F':List Nat}(o:Own B a h F)(m:Mo (· ∈F) h c)(f: ∀b∈F',b∈F\/h.n<=b):Own B a c F':=
 ⟨Xl o.1 m.n,fun b g=>by
  obtain⟨d,e,i⟩:=o.2 b g;have hlt:=Xb d o.1;exact⟨d,fun j=>(f b j).elim e (fun h=>by omega),(m.get b hlt e).trans i⟩⟩
section
variable{γ:Gra}{nb mb bp k:Nat}{p:Value}{m:List Int}{c:Nat->Nat}
theorem won_ok{h0 e:Hp}{D:Nat->Prop}(u:h0.t.Sized h0.n){L:Nat}{J:Nat->Hp->List Nat->Prop}{Z:Out->Hp->Prop}{xs:List (List Value)}(x:Good γ)(O: ∀v h,¬Z (.pan v) h)(Y:Yld zO L J Z xs){B:Nat->Prop}{b y:Nat}(z:B b)(P:e.load b 0 1=some [.func (.yield L) #[] #[]])(Q:D y)(R:h0.load y 0 1=some [ptrTo bp])(j: ∀h F,ItS h0 D h F->aX h nb (ptrTo bp) γ)
 {g:FuncId} {post:Array Value} {f:Nat->Bool} (A: ∀h F,ItS h0 D h F->Own B e h F-> ∀a,a<γ.arcs.length->aN zO g ([.int .i64 (a:Nat)]++post.toList) h (.bool (f a))) {l:Nat} (S: ∀a,a<γ.arcs.length->f a=true->xs[l+((zM a).filter f).length]? =some [.int .i64 (a:Nat)]) {h:Hp} {F:List Nat} (s:ItS h0 D h F) (o:Own B e h F) (q:J l h F):
 Ret zO 188 [.func (.func g) #[] post,ptrTo y,ptrTo b] h fun v t=>(v=.bool true/\ ∃F',ItS h0 D t F'/\Own B e t F'/\J (l+((zM γ.arcs.length).filter f).length) t F')\/(v=.bool false/\Z (.ret (.bool false)) t):=by
 have M:=x.many;have T:=s.load u R Q;refine aa (n:=21) (rs:=[.tmp 4]) rfl Tryz.e188 rfl rfl rfl (lbt rfl) ?_;simp only [BZ,T,seval];refine ag (lW s.ok (j _ _ s)) ?_;intro W C;simp only [BZ];refine aV (fun(i:Nat) r h=>i<=γ.arcs.length/\ ∃F,ItS h0 D h F/\Own B e h F/\J (l+((zM i).filter f).length) h F/\r 0=.func (.func g) #[] post/\r 2=ptrTo b/\r 7=.int .i64 (γ.arcs.length:Nat)/\r 8=.int .i64 i) (fun i=>γ.arcs.length-i) ?_ 0 _ _ ?_
 . intro i N r h ⟨hi,F,s,o,q,r0,r2,r7,r8⟩;have w:am .i64 ((i:Int)+1)=((i+1:Nat):Int):=(by rw [wrap64]<;>omega);by_cases hlt:i<γ.arcs.length
   . simp only [BZ,r0,r7,r8,az,hlt,seval];refine ag (A _ _ s o i hlt) ?_;intro X d;have E:=lz P ((o.gr d).2 b z).2.2;cases G:f i with
     | true=>
       have H:((zM (i+1)).filter f).length=((zM i).filter f).length+1:=(by rw [jw,if_pos G];simp);simp only [BZ,r2,E,seval];refine cZ Y (s.gr d) (Y.gr _ _ _ _ q d) (i:=l+((zM i).filter f).length) (S i hlt G) ?_ ?_ ?_
       . intro I U a V m3 K;simp only [BZ,r8,w,seval];exact N (i+1) _ _ (by omega) ⟨by omega,U,V,(o.gr d).mo m3 K,by rw [H];exact a,by simp [aw,r0,r2,ah,r7]⟩
       . intro I a _;simp only [BZ,ab,seval];exact .inr a
       . intro v I a;exact absurd a (O v I)
     | false=>have H:(zM (i+1)).filter f=(zM i).filter f:=(by rw [jw,if_neg (by rw [G];decide)];simp);simp only [BZ,r8,w,seval];exact N (i+1) _ _ (by omega) ⟨by omega,F,s.gr d,o.gr d,by rw [H];exact Y.gr _ _ _ _ q d,by simp [aw,r0,r2,ah,r7]⟩
   . have:i=γ.arcs.length:=(by omega);subst this;simp only [BZ,ab,r7,r8,az,hlt,seval];exact .inl ⟨F,s,o,q⟩
 . exact⟨Xe _,F,s.gr C,o.gr C,Y.gr _ _ _ _ q C,by simp [aw,dh,ah]⟩
theorem worth_ok{h0:Hp}(g:h0.t.Sized h0.n)(i:Fl p):Ret zO 101 [ptrTo bp,p,.int .i64 (k:Nat)] h0 fun v f=>Gr h0 f/\ ∃a b4 b5,v=.func (.func 187) #[] #[ptrTo a,ptrTo b4,ptrTo b5]/\h0.n<=a/\h0.n<=b4/\h0.n<=b5/\f.load a 0 1=some [ptrTo bp]/\f.load b4 0 1=some [p]/\f.load b5 0 1=some [.int .i64 (k:Nat)]:=by have S:=Si g;refine aa (n:=8) (rs:=[.tmp 6]) rfl Tryz.e101 rfl rfl rfl (lbt rfl) ?_;simp only [BZ,seval];refine ac (bW (by exact cP)) S ?_;clear S;intro h a S b;simp only [BZ,if_false,seval];refine ac (bW (by assumption)) S ?_;clear S;intro h b4 S d;simp only [BZ,if_false,seval];refine ac (bW (by exact bR)) S ?_;clear S;intro h b5 S e;simp only [BZ,ab,seval];exact⟨S.gr,a,b4,b5,rfl,b,d,e,S.ld m2 rfl,S.ld m1 rfl,S.ld m0 rfl⟩
def insB(γ:Gra)(c:Nat->Nat)(k a:Nat):Bool:=decide (c (γ.arcs.getD a default).s=k/\c (γ.arcs.getD a default).t=k)
theorem worth2_ok{h:Hp}(e:h.t.Sized h.n)(b:Good γ)(f:aX h nb (ptrTo bp) γ)(x:gc h mb p γ.nodes m c){d b4 b5:Nat}(g:h.load d 0 1=some [ptrTo bp])(i:h.load b4 0 1=some [p])(j:h.load b5 0 1=some [.int .i64 (k:Nat)]){a:Nat}(l:a<γ.arcs.length):
 aN zO 189 ([.int .i64 (a:Nat)]++[ptrTo d,ptrTo b4,ptrTo b5]) h (.bool (insB γ c k a)):=by
 refine aa (n:=11) (rs:=[.tmp 5]) rfl Tryz.e189 rfl rfl rfl (lbt rfl) ?_;simp only [BZ,g,i,j,seval];refine ag (inside_ok (N:=0) e b f x l) ?_;intro q o;simp only [BZ,ab,seval];exact⟨rfl,o⟩
theorem worth3_ok{h:Hp}(g:h.t.Sized h.n){b d n:Nat}{f:Nat->Bool}(i:h.load b 0 1=some [.slice (some ⟨d,0,none⟩) n n])(R:Row h d (dU n f) 1){a:Nat}(e:a<n):
 aN zO 193 ([.int .i64 (a:Nat)]++[ptrTo b]) h (.bool (f a)):=by
 have S:=Si g;have j:=R.load1 (bolC_at (f:=f) e);have l:(a:Int)<(n:Int):=by omega
 refine aa (n:=14) (rs:=[.tmp 3]) rfl Tryz.e193 rfl rfl rfl (lbt rfl) ?_;simp only [BZ,ab,i,l,e,j,seval];exact S.gr
theorem flat_at{a b:Type}{f:a->List b}{l:List a}{j q:Nat}{x:b}(d:j<l.length)(h:(f l[j])[q]? =some x):(l.flatMap f)[((l.take j).flatMap f).length+q]? =some x:=by
 have e:l=l.take j++l[j]::l.drop (j+1):=by rw [<-XH d,List.take_append_drop]
 conv=>lhs;rw [e]
 rw [XR,List.flatMap_cons,XF (by simp)];have g:=(List.getElem?_eq_some_iff.1 h).1;have i:(Xn j l++l[j]::Xo (j+1) l).take j=l.take j:=by rw [<-e]
 rw [i,XK,Xv g];exact h
noncomputable def oN(γ:Gra)(b:Nat):List Nat:=(zM γ.arcs.length).filter (jd γ b)
noncomputable def dD(γ:Gra)(c:Nat->Nat)(k:Nat):List Nat:=(zM γ.arcs.length).filter (insB γ c k)++((zM γ.nodes).filter (borB γ c k)).flatMap (oN γ)
theorem worth1_it {hq h0:Hp} (K:hq.t.Sized hq.n) (t:h0.t.Sized h0.n) (kq:eP hq h0) (nq:hq.n<=h0.n) (y:Good γ) (hn:aX hq nb (ptrTo bp) γ) (x:gc hq mb p γ.nodes m c) {z b4 b5:Nat} (M:h0.load z 0 1=some [ptrTo bp]) (e4:h0.load b4 0 1=some [p]) (e5:h0.load b5 0 1=some [.int .i64 (k:Nat)]):
 mi zO 187 [] [ptrTo z,ptrTo b4,ptrTo b5] h0 (fun c=>c=z\/c=b4\/c=b5\/c<hq.n) ((dD γ c k).map fun(a:Nat)=>[.int .i64 (a:Nat)]):=by
 intro lb J Z hz Y h F s N;have n2:=y.n2;have fp:Fl p:=by obtain⟨b,_,rfl,_⟩:=x.at0;exact cP
 have kN: ∀h F,ItS h0 (fun c=>c=z\/c=b4\/c=b5\/c<hq.n) h F->eP hq h:=fun h F s=>s.keep kq nq (fun c X=>.inr (.inr (.inr X)));have u: ∀h F,ItS h0 (fun c=>c=z\/c=b4\/c=b5\/c<hq.n) h F->aX h nb (ptrTo bp) γ:=fun h F s=>hn.keep K (kN h F s);have C: ∀h F,ItS h0 (fun c=>c=z\/c=b4\/c=b5\/c<hq.n) h F->gc h mb p γ.nodes m c:=fun h F s=>x.keep K (kN h F s);have ad: ∀a,a<γ.arcs.length->insB γ c k a=true->((dD γ c k).map fun(a:Nat)=>[Value.int .i64 (a:Nat)])[0+((zM a).filter (insB γ c k)).length]? =some [.int .i64 (a:Nat)]:=fun a E q=>by have R:=sq q _ E;unfold dD;rw [Xz,Xk,Xv (List.getElem?_eq_some_iff.1 R).1,R];rfl
 have S:=Si s.ok;refine enter (n:=31) (rs:=[]) rfl Tryz.e187 rfl rfl rfl (lbt rfl) ?_;simp only [BZ,seval];refine ac (bW (by exact fT)) S ?_;clear S;intro h l S af;have s1:=s.gr S.gr;have j1:=Y.gr _ _ _ _ N S.gr;have zy:=(S.row (b:=l) m0).lt S.ok;have ly:=S.ld (b:=l) (o:=0) m0 rfl;have o1:Own (· =l) _ _ F:=⟨Xs _,fun b q=>⟨by subst q;exact zy,fun D=>by subst q;have:=s.lt _ D;omega,rfl⟩⟩;simp only [BZ,seval];refine step_ret (won_ok t y hz Y (B:=(· =l)) rfl ly (.inl rfl) M u (g:=189) (post:=#[ptrTo z,ptrTo b4,ptrTo b5]) (f:=insB γ c k) (fun h F s _ a E=>worth2_ok s.ok y (u _ _ s) (C _ _ s) (s.load t M (.inl rfl)) (s.load t e4 (.inr (.inl rfl))) (s.load t e5 (.inr (.inr (.inl rfl)))) E) ad s1 o1 j1) ?_;rintro v h2 (⟨rfl,F2,A,o2,j2⟩|⟨rfl,z2⟩)
 . simp only [BZ,A.load t M (.inl rfl),A.load t e4 (.inr (.inl rfl)),A.load t e5 (.inr (.inr (.inl rfl))),seval];refine step_ret (border_ok A.ok y (u _ _ A) (C _ _ A) (k:=k)) ?_;rintro H O ⟨gB,T,nB⟩;have sA:=A.gr gB;have jA:=Y.gr _ _ _ _ j2 gB;have U:=o2.gr gB;have lB:O.load l 0 1=some [.func (.yield lb) #[] #[]]:=lz ly (U.2 l rfl).2.2;have ai:l<O.n:=Xb zy U.1;have oB:Own (fun c=>c=l\/aq H c) O O F2:=⟨Xs _,fun b q=>⟨q.elim (fun e=>by subst e;exact ai) (fun h=>T.lt sA.ok h),fun D=>q.elim (fun e=>(U.2 b e).2.1 D) (fun h=>by have:=nB b h;have:=A.lt b D;omega),rfl⟩⟩;generalize V:(zM γ.nodes).filter (borB γ c k)=L at T;have ak: ∀b∈L,b<γ.nodes:=fun b q=>(by rw [<-V]at q;exact List.mem_range.1 (List.mem_filter.1 q).1);have an:L.length<=γ.nodes:=(by rw [<-V];exact qO);simp only [BZ,T.lenq,seval];refine aV (fun(j:Nat) I h=>j<=L.length/\ ∃F,ItS h0 (fun c=>c=z\/c=b4\/c=b5\/c<hq.n) h F/\Own (fun c=>c=l\/aq H c) O h F/\J (((zM γ.arcs.length).filter (insB γ c k)).length+((L.take j).flatMap (oN γ)).length) h F/\I 1=ptrTo z/\I 5=.func (.func 188) #[] #[ptrTo z,ptrTo l]/\I 17=H/\I 18=.int .i64 (L.length:Nat)/\I 19=.int .i64 j) (fun j=>L.length-j) ?_ 0 _ _ ?_
   . clear S s1 j1 o1 A j2 o2 sA jA U oB;intro j ih I h ⟨hj',F,s,o,N,r1,r5,r17,r18,r19⟩;have w:am .i64 ((j:Int)+1)=((j+1:Nat):Int):=(by rw [wrap64]<;>omega);by_cases hlt:j<L.length
     . have q:=ak _ (Xd hlt);have sl:av h 1 cq H L:=sl_get T (fun c X=>(o.2 c (.inr X)).2.2);obtain⟨d,oo,x0,W⟩:=sl.ix (kd:=.i64) dV hlt;have P: ∀a,a<γ.arcs.length->jd γ L[j] a=true->((dD γ c k).map fun(a:Nat)=>[Value.int .i64 (a:Nat)])[((zM γ.arcs.length).filter (insB γ c k)).length+((L.take j).flatMap (oN γ)).length+((zM a).filter (jd γ L[j])).length]? =some [.int .i64 (a:Nat)]:=fun a E q=>(by have R:(oN γ L[j])[((zM a).filter (jd γ L[j])).length]? =some a:=sq q _ E;unfold dD;rw [V,Xk,Nat.add_assoc,XF (by omega),XK,flat_at hlt R];rfl);have tk:((L.take (j+1)).flatMap (oN γ)).length=((L.take j).flatMap (oN γ)).length+((zM γ.arcs.length).filter (jd γ L[j])).length:=(by rw [Xg hlt,XR,List.length_append];simp [oN]);generalize L[j]=b at q W P tk;replace W:h.load d oo 1=some [.int .i64 (b:Nat)]:=W;simp only [BZ,r1,r17,r18,r19,az,hlt,x0,W,s.load t M (.inl rfl),seval];refine step_ret (arcsT_ok s.ok y (u _ _ s) q) ?_;rintro r h4 ⟨g4,bl,rfl,R4,nl⟩;have S:=Si g4.ok;simp only [BZ];refine ac ay S ?_;clear S;intro h Q S al;simp only [BZ,seval];refine aC (aA S (i:=0) rfl Tryz.t103.2.2.1 bO (Xj (lbt rfl)) ono) ?_;clear S;rintro h5 ⟨S,_⟩;simp only [LC]at S;have g5:=g4.trans S.gr;have s5:=s.gr g5;have j5:=Y.gr _ _ _ _ N g5;have G:=o.gr g5;have R8:=S.row (b:=Q) m0;have Rl:=R4.gr S.gr;have k4:=g4.n;have oC:Own (fun c=>(c=l\/aq H c)\/c=Q\/c=bl) h5 h5 F:=⟨Xs _,fun b q=>by
        rcases q with q|rfl|rfl
        . exact⟨Xb (G.2 b q).1 G.1,(G.2 b q).2.1,rfl⟩
        . exact⟨R8.lt S.ok,fun D=>by have:=s.lt _ D;omega,rfl⟩
        . exact⟨Rl.lt S.ok,fun D=>by have:=s.lt _ D;omega,rfl⟩⟩
       have l5:h5.load l 0 1=some [.func (.yield lb) #[] #[]]:=lz lB (G.2 l (.inl rfl)).2.2;simp only [BZ,r5,seval];refine step_ret (won_ok t y hz Y (B:=fun c=>(c=l\/aq H c)\/c=Q\/c=bl) (.inl (.inl rfl)) l5 (.inl rfl) M u (g:=193) (post:=#[ptrTo Q]) (f:=jd γ b) (fun h F s o a E=>worth3_ok s.ok (lz (R8.load1 (o:=0) rfl) (o.2 Q (.inr (.inl rfl))).2.2) (Row.of_get (o.2 bl (.inr (.inr rfl))).2.2 Rl) E) P s5 oC j5) ?_;rintro v h6 (⟨rfl,F6,s6,o6,j6⟩|⟨rfl,z6⟩)
       . simp only [BZ,r19,w,seval];refine ih (j+1) _ _ (by omega) ⟨by omega,F6,s6,⟨Xl G.1 o6.1,fun b q=>⟨(G.2 b q).1,(o6.2 b (.inl q)).2.1,(o6.2 b (.inl q)).2.2.trans (G.2 b q).2.2⟩⟩,by rw [tk,<-Nat.add_assoc];exact j6,by simp [aw,r1,ah,r5,r17,r18]⟩
       . simp only [BZ,seval];exact gy rfl ⟨rfl,.inr (.inl ⟨_,rfl,z6⟩)⟩
     . have:j=L.length:=(by omega);subst this;simp only [BZ,r18,r19,az,hlt,seval];refine cy (cJ ⟨rfl,_,rfl,rfl,.inl ⟨_,F,rfl,?_⟩⟩);rw [Xp]at N;rw [Xr];unfold dD;rw [List.length_append,V];exact N
   . exact⟨Xe _,F2,sA,oB,by simpa using jA,by simp [aw,dh,ah]⟩
 . simp only [BZ,seval];exact gy rfl ⟨rfl,.inr (.inl ⟨_,rfl,z2⟩)⟩
end
end Go.Ab

end
section
namespace Go.Ab
open Go.Proofs
set_option maxRecDepth 10000
def OkB(e:Gra)(c:Nat->Nat)(b k i:Nat)(B:Nat->Nat):Prop:= ∀d a,a/8<b->(fj B b d a=true↔(d<k/\a∈dD e c d)\/(d=k/\a∈(dD e c k).take i))
theorem OkB.zero{d:Gra}{c:Nat->Nat}{b:Nat}:OkB d c b 0 0 (fun _=>0):=fun e a _=>by simp [fj]
theorem OkB.next{f:Gra}{c:Nat->Nat}{b k:Nat}{B:Nat->Nat}(o:OkB f c b k (dD f c k).length B):OkB f c b (k+1) 0 B:=fun g a h=>by
 rw [o g a h,Xp];simp only [XN,Xi,and_false,or_false];constructor
 . rintro(⟨i,d⟩|⟨rfl,d⟩)
   . exact⟨by omega,d⟩
   . exact⟨by omega,d⟩
 . rintro⟨i,d⟩;by_cases e:g=k
   . subst e;exact .inr ⟨rfl,d⟩
   . exact .inl ⟨by omega,d⟩
theorem OkB.set{d:Gra}{c:Nat->Nat}{b k i:Nat}{B:Nat->Nat}(n:b=(d.arcs.length+7)/8)(o:OkB d c b k i B)(l:i<(dD d c k).length)(hlt:(dD d c k)[i]<d.arcs.length):OkB d c b k (i+1) (cV B (k*b+(dD d c k)[i]/8) (setB (B (k*b+(dD d c k)[i]/8)) ((dD d c k)[i]%8))):=fun j a m=>by
 rw [Az (by omega) (by omega),Xg l];by_cases e:j=k/\a=(dD d c k)[i]
 . rw [if_pos e];obtain⟨rfl,e⟩:=e;subst e;exact⟨fun _=>.inr ⟨rfl,List.mem_append.2 (.inr (List.mem_singleton.2 rfl))⟩,fun _=>rfl⟩
 . rw [if_neg e,o j a m];simp only [Xu,XB];constructor
   . rintro(h|⟨g,f⟩)
     . exact .inl h
     . exact .inr ⟨g,.inl f⟩
   . rintro(h|⟨g,f|f⟩)
     . exact .inl h
     . exact .inr ⟨g,f⟩
     . exact absurd ⟨g,f⟩ e
theorem xZ{d:Gra}{c:Nat->Nat}{k a:Nat}(h:a∈dD d c k):a<d.arcs.length:=by
 unfold dD at h;rcases List.mem_append.1 h with h|h
 . exact List.mem_range.1 (List.mem_filter.1 h).1
 . obtain⟨b,_,h⟩:=List.mem_flatMap.1 h;exact List.mem_range.1 (List.mem_filter.1 h).1
theorem perm_db{c:Type}{x a b d:c}{l:List c}:List.Perm (x::([a,b]++(d::l))) ([d,x,a,b]++l):=by show List.Perm ([x,a,b]++d::l) (d::([x,a,b]++l));exact List.perm_middle
theorem yh{L:List (Nat×Ob)}{a:List Nat}:keys (L++dB a) []=L.map Prod.fst++a:=by simp [keys,dB,XG]
theorem ofB_ok {h0:Hp} (ok:h0.t.Sized h0.n) {q:Gra} {nb mb bp cb:Nat} {m:List Int} {c:Nat->Nat} {M:Nat} (D:Good q) (hn:aX h0 nb (ptrTo bp) q) (x:gc h0 mb (ptrTo cb) q.nodes m c) (hM:fS m+1=(M:Int)) (R:M<=100):
 Ret zO 40 [ptrTo bp,ptrTo cb] h0 fun r O=>Gr h0 O/\ ∃t f B,r=ptrTo t/\h0.n<=t/\h0.n<=f/\t≠f/\eX O t f M q.arcs.length ((q.arcs.length+7)/8) B/\OkB q c ((q.arcs.length+7)/8) M 0 B:=by
 have S:=Si ok;have n1:=D.n1;have n2:=D.n2;have ak:=D.many;have xl:=x.len;have co: ∀{h},Gr h0 h->kP h (ptrTo cb) m (M:Int):=fun g=>.inr ⟨⟨_,(x.gr g).at0⟩,by rw [hM]⟩;refine aa (n:=33) (rs:=[.tmp 4]) rfl Tryz.e40 rfl rfl rfl (lbt rfl) ?_;simp only [BZ,seval];refine ag (zH S.ok hn (co S.gr) n1 (by omega)) ?_;intro h1 g1;replace S:=S.call g1;simp only [BZ,xl,seval];refine ag (xz S.ok (co S.gr)) ?_;intro P U;replace S:=S.call U;simp only [BZ,seval];refine ag (lW S.ok (hn.gr S.gr)) ?_;intro h3 g3;replace S:=S.call g3;simp only [BZ,seval];refine step_ret (bmNew_ok S.ok R (by omega)) ?_;rintro r z ⟨V,t,f,rfl,nf,aL,H,W⟩;have k3:=S.gr.n;have a0:=S.ok;have gq:=S.gr.trans V;have kN:=V.n;have gS:=S.gr;clear S;have S:St (· =f) z z [(f,.row _ 1)] []:=St.init1 V.ok (o:=.row _ 1) W.b;have zf:=W.b.lt V.ok;have zp:=W.r.lt V.ok;simp only [BZ];refine ac ay S ?_;clear S;intro h u S al;simp only [BZ,seval];refine aC (aA S (i:=0) rfl ?_ ?_ ?_ ono) ?_
 . exact(by simp only [FA0])
 . exact(by exact cP)
 . exact Xj (lbt rfl)
 clear S;rintro h ⟨S,mo⟩;clear mo;simp only [LC,ae,lay,Xn,Xo,seval]at S;simp only [BZ,seval];have gO: ∀{h:Hp} {L:List (Nat×Ob)} {G:List GL},St (· =f) z h L G->Gr h0 h:=fun S=>(gq.fr.trans S.fr (fun b e=>.inr (by subst e;omega)):Mo NoM _ _).gr;have kO: ∀{h:Hp} {L:List (Nat×Ob)} {G:List GL},St (· =f) z h L G->eX z t f M q.arcs.length ((q.arcs.length+7)/8) (fun _=>0)->Row h t [.int .i64 M,.int .i64 q.arcs.length,.int .i64 ((q.arcs.length+7)/8:Nat),.slice (some ⟨f,0,none⟩) (M*((q.arcs.length+7)/8)) (M*((q.arcs.length+7)/8))] 1:=fun S b=>Row.of_get (S.fr.get t zp H) b.r;have hr:=fun {h:Hp} {L:List (Nat×Ob)} {G:List GL} (S:St (· =f) z h L G)=>kO S W;refine ag (xz S.ok (co (gO S))) ?_;intro h4 g4;replace S:=S.call g4;simp only [BZ];generalize A:(q.arcs.length+7)/8=l at*
 refine qw (fun(k:Nat) Q d h=>k<=M/\ ∃p B,d=p.map qy/\St (· =f) z h ([(u,.row [ptrTo t] 1),(f,.row (iq (M*l) B) 1)]++dB p) []/\(∀j,B j<256)/\OkB q c l k 0 B/\Q 0=ptrTo bp/\Q 1=ptrTo cb/\Q 5=ptrTo u/\Q 18=.int .i64 (M:Nat)/\Q 19=.int .i64 k) (fun k=>M-k) ?_ 0 _ _ _ ?_
 . clear S g4;rintro k ih Q d h ⟨hk,p,B,rfl,S,hB,oB,r0,r1,r5,r18,r19⟩;have w:am .i64 ((k:Int)+1)=((k+1:Nat):Int):=(by rw [wrap64]<;>omega);by_cases hlt:k<M
   . simp only [BZ,r18,r19,az,hlt,seval];refine ac ay S ?_;clear S;intro h C S an;simp only [BZ,seval];refine aC (aA S (i:=0) rfl ?_ ?_ ?_ ono) ?_
     . exact(by simp only [FA0])
     . exact(by exact bR)
     . exact Xj (lbt rfl)
     clear S;rintro h ⟨S,mo⟩;clear mo;simp only [LC,ae,lay,Xn,Xo,seval]at S;simp only [BZ,r0,r1,S.ld (b:=C) (o:=0) m0 rfl,seval];refine step_ret (worth_ok S.ok (k:=k) cP) ?_;rintro v hW ⟨gW,w3,w4,w5,rfl,n3,n4,n5,e3,e4,e5⟩;have kk: ∀b∈[C,u,f]++p,h0.n<=b/\b<w3/\b<w4/\b<w5/\b<hW.n:=fun b s=>(by have hm:b∈keys ([(C,Ob.row [.int .i64 (k:Nat)] 1),(u,.row [ptrTo t] 1),(f,.row (iq (M*l) B) 1)]++dB p) []:=(by rw [yh];exact s);have h1:=S.key_lt hm;have P:=S.key_own hm;have h3:=gW.n;have h4:h0.n<=b:=P.elim (fun h=>by omega) (fun h=>by subst h;omega);omega);replace S:=S.call gW;have a1:=gW.n;have Y:=gO S;have zN:=S.fr.n;have it:=worth1_it ok S.ok Y.keep Y.n D hn x e3 e4 e5;simp only [BZ];refine hZ S (g:=187) (a:=#[]) (b:=#[ptrTo w3,ptrTo w4,ptrTo w5]) (by simp [bA,aw,ah]) rfl rfl ?_;intro P E I Z a2 a3 U;obtain⟨X,hX,Z⟩: ∃X:fu,X=_/\St (· =f) z P ([(I,.loop X),(E,.dfr),(C,.row [.int .i64 (k:Nat)] 1),(u,.row [ptrTo t] 1),(f,.row (iq (M*l) B) 1)]++dB p) []:=⟨_,rfl,Z⟩;have hJ:Yld zO I (fun i O F=> ∃B,St (· =f) z O ([(I,.loop X),(E,.dfr),(C,.row [.int .i64 (k:Nat)] 1),(u,.row [ptrTo t] 1),(f,.row (iq (M*l) B) 1)]++dB p) []/\(∀j,B j<256)/\OkB q c l k i B/\F=[I,E,C,u,f]++p) (fun _ _=>False) ((dD q c k).map fun(a:Nat)=>[.int .i64 (a:Nat)]):=by
      refine⟨?_,?_,fun _ _ h=>h.elim,?_⟩
      . rintro i h F ⟨B,S,_,_,rfl⟩;exact⟨S.ok,fun b s=>S.key_lt (by rw [yh];exact s)⟩
      . rintro i h F O ⟨B,S,a,b,rfl⟩ gg;exact⟨B,S.call gg,a,b,rfl⟩
      . rintro i x hR F J ⟨B,S,hB,oB,rfl⟩;have K:i<(dD q c k).length:=(by have:=(List.getElem?_eq_some_iff.1 J).1;simpa using this);rw [Xk,Xc K]at J;cases J;have N:(dD q c k)[i]<q.arcs.length:=xZ (Xd K);have ad:=oB.set A.symm K N;generalize(dD q c k)[i]=a at N ad;subst hX;refine ia (S.get m0) (by rw [Tryz.e40];rfl) rfl ?_;have S0:=S;replace S:=S.base;simp only [BZ,seval];refine fU S (i:=0) rfl rfl rfl rfl rfl ?_;clear S;intro h S;simp only [LC]at S;simp only [BZ,r5,S.ld (b:=C) (o:=0) m2 rfl,S.ld (b:=u) (o:=0) m3 rfl,seval];have BA:eX h t f M q.arcs.length l B:=⟨hr (S0.rebase S),S.row (b:=f) m4,hB⟩;refine step_ret (bSet_ok S.ok BA H hlt N R (by omega) A.symm) ?_;rintro v h5 ⟨f5,rfl,B5⟩;have S5:=S.call1 (i:=4) (o':=.row _ 1) rfl f5 B5.b;simp only [XD,List.set_cons_succ]at S5;clear S;simp only [BZ];refine eg S5 (i:=0) rfl ?_;clear S5;intro h S;simp only [LC]at S;refine .inl ⟨rfl,_,⟨_,S0.rebase S,B5.lt,ad,rfl⟩,?_,fun c hc=>.inl hc⟩;exact S.fr.mono fun b s=>by simpa [keys,dB,XG]using s
     refine eH (it I _ _ (fun _ _ h=>h) hJ P ([I,E,C,u,f]++p) ?_ ⟨B,Z,hB,oB,rfl⟩) fun o rc O y=>jn y ?_
     . have kn:=U.n;refine⟨Z.ok,U.n,fun b s hd=>U.get b s,fun b s h=>?_,fun b s=>Z.key_lt (by simpa [keys,dB,XG]using s)⟩;simp only [Xu,Xm,Xi,or_false]at s;obtain⟨h1,P⟩:=h;have J:b=I\/b=E\/b∈[C,u,f]++p:=by
        rcases s with(s|s|s)|s
        . exact .inl s
        . exact .inr (.inl s)
        . exact .inr (.inr (List.mem_append.2 (.inl (by simpa using s))))
        . exact .inr (.inr (List.mem_append.2 (.inr s)))
       rcases J with rfl|rfl|J
       . omega
       . omega
       . have:=kk b J;omega
     . rintro F ⟨B1,T,ai,af,rfl⟩;rw [Xr]at af;subst hX;refine⟨_,T.get m0,Xx,?_⟩;replace T:=T.dead;show Run _ _ _ _ _ _ _ _;have T1:St (· =f) z _ ([(E,.dfr),(C,.row [.int .i64 (k:Nat)] 1),(u,.row [ptrTo t] 1),(f,.row (iq (M*l) B1) 1)]++dB p) []:=T;have T':St (· =f) z _ ([(u,.row [ptrTo t] 1),(f,.row (iq (M*l) B1) 1)]++(E,.dfr)::dB p) []:=(T1.permL perm_db).drop1;simp only [BZ,r19,w,seval];exact ih (k+1) _ _ _ (by omega) ⟨by omega,E::p,B1,rfl,T',ai,af.next,by simp [aw,r0,ah,r1,r5,r18]⟩
   . have:k=M:=(by omega);subst this;have gE:=gO S;have S0:=S;simp only [LC]at S;simp only [BZ,r5,r18,r19,az,hlt,S.ld (b:=u) (o:=0) m0 rfl,seval];refine dJ (gu p _ (L:=[(u,_),(f,_)]) (S0.permL Xw) fun h4 S4=>?_);refine⟨rfl,(fQ (by decide)).2 (cK.2 ?_)⟩;refine⟨gO S4,t,f,B,?_,by omega,by omega,H,⟨hr S4,S4.row m1,hB⟩,oB⟩;exact rfl
 . exact⟨Xe _,[],_,rfl,S,W.lt,OkB.zero,by simp [aw,dh,ah]⟩
end Go.Ab
end
section
namespace Go.Ab
open Go.Proofs
set_option maxRecDepth 10000
theorem get1_ok{h0:Hp}(g:h0.t.Sized h0.n){b j x i:Nat}(l:h0.load b j 1=some [.int .u8 (x:Nat)])(c:x<256)(d:i<8):aN zO 277 [.pointer (some ⟨b,j,none⟩),.int .u8 ((2 ^i:Nat):Int)] h0 (.bool (x.testBit i)):=by
 have S:=Si g;cases f:x.testBit i with
 | true=>
   have a: ¬(((x&&& 2 ^i:Nat)):Int)=0:=fun e=>(by have:(x&&& 2 ^i)=0:=(by omega);rw [and_pow,f]at this;cases this);refine aa (n:=11) (rs:=[.tmp 4]) rfl Tryz.e277 rfl rfl rfl (lbt rfl) ?_;simp only [BZ,ab,l,b_and8 c (pow8 d),a,seval];exact S.gr
 | false=>have a:(((x&&& 2 ^i:Nat)):Int)=0:=(by have:=and_pow.2 f;omega);refine aa (n:=11) (rs:=[.tmp 4]) rfl Tryz.e277 rfl rfl rfl (lbt rfl) ?_;simp only [BZ,ab,l,b_and8 c (pow8 d),a,seval];exact S.gr
section
variable{h0:Hp}{bp bb rows wide long:Nat}{B:Nat->Nat}
theorem bGet_ok(j:h0.t.Sized h0.n)(m:eX h0 bp bb rows wide long B){r i:Nat}(t:r<rows)(u:i<wide)(b:rows<=100)(c:wide<=1000)(d:long=(wide+7)/8):
 aN zO 257 [ptrTo bp,.int .i64 (r:Nat),.int .i64 (i:Nat)] h0 (.bool (fj B long r i)):=by
 obtain⟨w,x,y,z,k,M,l⟩:=rR t u b c d;have A: ∀{h:Hp},Gr h0 h->aN zO 102 [ptrTo bp,.int .i64 (r:Nat),.int .i64 (i:Nat),.func (.func 277) #[] #[]] h (.bool (fj B long r i)):=by
  intro h g;have S:=Si g.ok;have e:=m.gr g;have C: ¬(r:Int)<0:=by omega
  have D: ¬(rows:Int)<=(r:Int):=by omega
  have E: ¬(i:Int)<0:=by omega
  have F: ¬(wide:Int)<=(i:Int):=by omega
  have G:=e.r.load1 (o:=2) rfl;have H:=e.r.load1 (o:=3) rfl;have I:=e.b.load1 (tt k);have J:=e.r.lt g.ok;refine aa (n:=46) (rs:=[.tmp 8]) rfl Tryz.e102 rfl rfl rfl (lbt rfl) ?_;simp only [BZ,C,seval];refine ag (iQ S.ok e.bits) ?_;intro N f;replace S:=S.call f;simp only [BZ,D,E,seval];refine ag (iT S.ok (e.gr f).bits) ?_;intro O p;replace S:=S.call p;have a:=f.trans p;have K:=a.load G;have L:=a.load H;simp only [BZ,F,seval];refine ar (ax rfl) (q:=0) (ps:=[]) (by kernel_rfl) ?_;simp only [BZ,cls,K,L,w,x,y,z,k,kT (n:=8) (by decide),iY (n:=8) (by decide),b_shl8 l,seval];refine bM (get1_ok S.ok (a.load I) (e.lt _) l) ?_;intro P s;have v:=ao s (Xb J a.n);replace S:=S.call s;simp only [BZ,cls,ab,seval];exact⟨rfl,S.gr⟩
 have S:=Si j;refine aa (n:=11) (rs:=[.tmp 6]) rfl Tryz.e257 rfl rfl rfl (lbt rfl) ?_;simp only [BZ,seval];refine ag (A (Gr.refl j)) ?_;intro h g;simp only [BZ,ab,seval];exact g
end
theorem bOn_ok{h0:Hp}(f:h0.t.Sized h0.n){e r:Nat}:Ret zO 218 [ptrTo e,.int .i64 (r:Nat)] h0 fun v d=>Gr h0 d/\ ∃b2 a,v=.func (.func 256) #[] #[ptrTo b2,ptrTo a]/\h0.n<=b2/\h0.n<=a/\d.load b2 0 1=some [ptrTo e]/\d.load a 0 1=some [.int .i64 (r:Nat)]:=by have S:=Si f;refine aa (n:=6) (rs:=[.tmp 4]) rfl Tryz.e218 rfl rfl rfl (lbt rfl) ?_;simp only [BZ,seval];refine ac (bW (by exact cP)) S ?_;clear S;intro h b2 S b;simp only [BZ,if_false,seval];refine ac (bW (by exact bR)) S ?_;clear S;intro h a S c;simp only [BZ,ab,seval];exact⟨S.gr,b2,a,rfl,b,c,S.ld m1 rfl,S.ld m0 rfl⟩
section
variable{h0:Hp}{bp bb rows wide long:Nat}{B:Nat->Nat}
theorem eX.its{D:Nat->Prop}{h:Hp}{F:List Nat}(s:ItS h0 D h F)(a:h0.t.Sized h0.n)(m:eX h0 bp bb rows wide long B)(b:D bp)(c:D bb):eX h bp bb rows wide long B:=
 ⟨Row.of_get (s.data bp (m.r.lt a) b) m.r,Row.of_get (s.data bb (m.b.lt a) c) m.b,m.lt⟩
theorem on1_it (b:h0.t.Sized h0.n) (m:eX h0 bp bb rows wide long B) {r:Nat} (C:r<rows) (d:rows<=100) (e:wide<=1000) (f:long=(wide+7)/8) {b2 k:Nat} (x:h0.load b2 0 1=some [ptrTo bp]) (D:h0.load k 0 1=some [.int .i64 (r:Nat)]):
 mi zO 256 [] [ptrTo b2,ptrTo k] h0 (fun c=>c=b2\/c=k\/c=bp\/c=bb) (((zM wide).filter (fj B long r)).map fun(i:Nat)=>[.int .i64 (i:Nat)]):=by
 intro E J Z G Y h F s g;have l:=s.load b x (.inl rfl);refine enter (n:=21) (rs:=[]) rfl Tryz.e256 rfl rfl rfl (lbt rfl) ?_;simp only [BZ,l,seval];refine ag (iT s.ok (m.its s b (.inr (.inr (.inl rfl))) (.inr (.inr (.inr rfl)))).bits) ?_;intro N p;have y:=s.gr p;have z:=Y.gr _ _ _ _ g p;simp only [BZ];refine aV (fun(i:Nat) j h=>i<=wide/\ ∃F,ItS h0 (fun c=>c=b2\/c=k\/c=bp\/c=bb) h F/\J ((zM i).filter (fj B long r)).length h F/\j 0=.func (.yield E) #[] #[]/\j 1=ptrTo b2/\j 2=ptrTo k/\j 6=.int .i64 (wide:Nat)/\j 7=.int .i64 i) (fun i=>wide-i) ?_ 0 _ _ ?_
 . clear l s g y z F p h;intro i A j h ⟨hi,F,s,g,r0,r1,r2,r6,r7⟩;have w:am .i64 ((i:Int)+1)=((i+1:Nat):Int):=(by rw [wrap64]<;>omega);by_cases hlt:i<wide
   . have l:=s.load b x (.inl rfl);have H:=s.load b D (.inr (.inl rfl));have I:=m.its s b (.inr (.inr (.inl rfl))) (.inr (.inr (.inr rfl)));simp only [BZ,r1,r2,r6,r7,az,hlt,l,H,seval];refine ag (bGet_ok s.ok I C hlt d e f) ?_;intro O o;cases q:fj B long r i with
     | true=>
       have K:(((zM wide).filter (fj B long r)).map fun(i:Nat)=>[Value.int .i64 (i:Nat)])[((zM i).filter (fj B long r)).length]? =some [.int .i64 (i:Nat)]:=(by rw [Xk,sq q _ hlt];rfl);have t:((zM (i+1)).filter (fj B long r)).length=((zM i).filter (fj B long r)).length+1:=(by rw [jw,if_pos q];simp);simp only [BZ,r0,seval];refine cZ Y (s.gr o) (Y.gr _ _ _ _ g o) (i:=((zM i).filter (fj B long r)).length) K ?_ ?_ ?_
       . intro u L a M _ _;simp only [BZ,r7,w,seval];exact A (i+1) _ _ (by omega) ⟨by omega,L,M,by rw [t];exact a,by simp [aw,r0,r1,ah,r2,r6]⟩
       . intro u a _;simp only [BZ,seval];exact gy rfl ⟨rfl,.inr (.inl ⟨_,rfl,a⟩)⟩
       . intro v u a;exact absurd a (G v u)
     | false=>have t:(zM (i+1)).filter (fj B long r)=(zM i).filter (fj B long r):=(by rw [jw,if_neg (by rw [q];decide)];simp);simp only [BZ,r7,w,seval];exact A (i+1) _ _ (by omega) ⟨by omega,F,s.gr o,by rw [t];exact Y.gr _ _ _ _ g o,by simp [aw,r0,r1,ah,r2,r6]⟩
   . simp only [BZ,r6,r7,az,hlt,seval];have:i=wide:=(by omega);subst this;exact cy (cJ ⟨rfl,_,rfl,rfl,.inl ⟨_,F,rfl,by simpa using g⟩⟩)
 . exact⟨Xe _,F,y,z,by simp [aw,dh,ah]⟩
theorem bRow_ok(H:h0.t.Sized h0.n)(m:eX h0 bp bb rows wide long B){r:Nat}(hr:r<rows)(s:rows<=100)(d:wide<=1000)(t:long=(wide+7)/8):
 Ret zO 149 [ptrTo bp,.int .i64 (r:Nat)] h0 fun v w=>Gr h0 w/\av w 1 cq v ((zM wide).filter (fj B long r))/\ ∀c,aq v c->h0.n<=c:=by
 have S:=Si H;refine aa (n:=15) (rs:=[.cell 4 41]) rfl Tryz.e149 rfl rfl rfl (lbt rfl) ?_;simp only [BZ];refine ac ay S ?_;clear S;intro h p S R;simp only [BZ,seval];have k4:=(S.row (b:=p) m0).lt S.ok;refine step_ret (bOn_ok S.ok) ?_;rintro v U ⟨g,b2,b3,rfl,n2,n3,y2,y3⟩;have I:=m.gr (S.gr.trans g);replace S:=S.call g;have V:=on1_it S.ok I hr s d t y2 y3;have zp:=I.r.lt S.ok;have zb:=I.b.lt S.ok;have wp:=m.r.lt H;have wb:=m.b.lt H;generalize J:(zM wide).filter (fj B long r)=f at V;have af:f.length<=1000:=by rw [<-J];exact Xl qO d
 simp only [BZ];replace S:=S.nilG (k:=1);refine hZ S (g:=256) (a:=#[]) (b:=#[ptrTo b2,ptrTo b3]) (by simp [bA,aw,ah]) rfl rfl ?_;intro K G u A M N W;obtain⟨X,Y,A⟩: ∃X:fu,X=_/\St NoM h0 K [(u,.loop X),(G,.dfr),(p,.row [.slice none 0 0] 1)] [(.slice none 0 0,1,[])]:=⟨_,rfl,A⟩;have hJ:Yld zO u (fun k w F=> ∃(l:Value),St NoM h0 w [(u,.loop X),(G,.dfr),(p,.row [l] 1)] [(l,1,fD (f.take k))]/\k<=f.length/\F=keys [(u,.loop X),(G,.dfr),(p,.row [l] 1)] [(l,1,fD (f.take k))]/\(∀c∈F,U.n<=c\/c=p)) (fun _ _=>False) (f.map fun(i:Nat)=>[.int .i64 (i:Nat)]):=by
  refine⟨?_,?_,fun _ _ h=>h.elim,?_⟩
  . rintro i h F ⟨l,S,_,rfl,_⟩;exact⟨S.ok,fun b q=>S.key_lt q⟩
  . rintro i h F w ⟨l,S,a,rfl,c⟩ gg;exact⟨l,S.call gg,a,rfl,c⟩
  . rintro i x hR F O ⟨l,S,a,rfl,Z⟩;have C:i<f.length:=(by have:=(List.getElem?_eq_some_iff.1 O).1;simpa using this);rw [Xk,Xc C]at O;cases O;have tk:fD (f.take (i+1))=fD (f.take i)++[.int .i64 (f[i]:Nat)]:=(by rw [Xg C];unfold fD;rw [List.map_append];rfl);have tl:(fD (f.take i)).length<=i:=(by rw [nI,XJ];omega);generalize f[i]=x at tk;have ai:Fl l:=(S.gown _ m0).1.fl;subst Y;refine ia (S.get m0) (by rw [Tryz.e149];rfl) rfl ?_;have S0:=S;have kR:=S.fr.n;have lim:U.n<=hR.n:=(by have h1:=Z u (by simp [keys]);have K:=S.key_lt (b:=u) (by simp [keys]);omega);replace S:=S.base;simp only [BZ,seval];refine fU S (i:=0) rfl rfl rfl rfl rfl ?_;clear S;intro h S;simp only [LC]at S;simp only [BZ,S.ld (b:=p) (o:=0) m2 rfl,seval];refine ac (bV (by exact Tryz.t41.1) (by exact Tryz.e3E) (by decide) (by rfl)) S ?_;clear S;intro h bs S ad;simp only [LC,a9,bQ,ae,XU,Xz,XV,XW,seval]at S;simp only [BZ,seval];have D:aR h 1 (.slice (some ⟨bs,0,none⟩) 1 1)=some (1,[.int .i64 (x:Nat)]):=(by simp only [aR];rw [S.lds (b:=bs) (o:=0) (n:=1*1) m0 (lbt rfl)];rfl);replace S:=S.drop1;refine dP (S.grow (j:=0) (m:=1) (new:=[.int .i64 (x:Nat)]) rfl Tryz.t41.1 Tryz.e3E (by decide) Tryz.t41.2.2.2.2.2 D rfl (by decide) rfl (by rw [nI];simp;omega)) ?_;clear S D;rintro h E S;simp only [LC]at S;have P:Fl E:=(S.gown _ m0).1.fl;simp only [BZ,seval];refine aC (aA S (i:=2) rfl Tryz.t41.2.2.1 P (Xj (lbt rfl)) ono) ?_;clear S;rintro h ⟨S,_⟩;simp only [LC]at S;simp only [BZ];refine eg S (i:=0) rfl ?_;clear S;intro h S;simp only [LC]at S;rw [<-tk]at S;refine .inl ⟨rfl,_,⟨E,S0.rebase S,by omega,rfl,fun c z=>?_⟩,S.fr,S.key_new⟩;rcases S.key_new c z with h|h
    . exact Z c h
    . exact .inl (by omega)
 refine eH (V u _ _ (fun _ _ h=>h) hJ K _ ?_ ⟨_,A,Xe _,rfl,fun c z=>?_⟩) fun o rc w y=>jn y ?_
 . refine⟨A.ok,W.n,fun b q _=>W.get b q,fun b q h=>?_,fun b q=>A.key_lt q⟩;simp only [keys,XE,XI,XS,eZ,XC,XL,Xm,Xi,or_false]at q;rcases q with rfl|rfl|rfl
   . omega
   . omega
   . rcases h.2 with e|e|e|e<;>omega
 . simp only [keys,XE,XI,XS,eZ,XC,XL,Xm,Xi,or_false]at z;rcases z with rfl|rfl|rfl
   . exact .inl N
   . exact .inl M
   . exact .inr rfl
 . rintro F ⟨l,T,b,rfl,_⟩;rw [Xr,Xp]at T;subst Y;refine⟨_,T.get m0,Xx,?_⟩;replace T:=T.dead;have S:=T;show Run _ _ _ _ _ _ _ _;simp only [BZ,S.ld (b:=p) (o:=0) m1 rfl,seval];have P:Fl l:=(T.gown _ m0).1.fl;clear S;refine aC (aA T (i:=1) rfl Tryz.t41.2.2.1 P (Xj (lbt rfl)) ono) ?_;clear T;rintro h3 ⟨T,_⟩;simp only [XD,List.set_cons_succ]at T;simp only [BZ];refine dJ (gu [G] _ (L:=[(p,_)]) T.base fun h4 Q=>?_);refine⟨rfl,(bZ (by decide) (by simp only [aD,ah,seval];exact js Tryz.t41.2.1 (Q.ld (b:=p) (o:=0) m0 rfl))).2 (cK.2 ⟨(T.rebase Q).gr,(Q.gown _ m0).1.sl (tO _).symm dV (by decide),fun c z=>?_⟩)⟩;rcases(T.gblk m0 z).1 with h|h
   . exact h
   . exact h.elim
end
end Go.Ab

end
section
namespace Go.Ab
open Go.Proofs
set_option maxRecDepth 10000
theorem allowF_ok{h0:Hp}(N:h0.t.Sized h0.n){I O l f g k:Nat}{B:Nat->Nat}(m:eX h0 I O l f g B)(P:k<l)(p:l<=100)(q:f<=1000)(s:g=(f+7)/8):
 Ret zO 58 [ptrTo I,.int .i64 (k:Nat)] h0 fun r D=>Gr h0 D/\ ∃o,r=.slice (some ⟨o,0,none⟩) f f/\Row D o (dU f (fj B g k)) 1/\h0.n<=o:=by
 have S:=Si N;have Q: ¬((k:Int)<0):=by omega
 have R: ¬((l:Int)<=(k:Int)):=by omega
 refine aa (n:=32) (rs:=[.tmp 4]) rfl Tryz.e58 rfl rfl rfl (lbt rfl) ?_;simp only [BZ,Q,seval];refine ag (iQ S.ok m.bits) ?_;intro T U;replace S:=S.call U;simp only [BZ,R,seval];refine ag (iT S.ok (m.gr S.gr).bits) ?_;intro h2 V;replace S:=S.call V;simp only [BZ,seval];refine ac (kH (by exact Tryz.t103.1) (by exact Tryz.e4E) (by omega) (by omega)) S ?_;clear S;intro h o S y;have W:a9 [Value.bool false] f=dU f (fun a=>decide (a∈((zM f).filter (fj B g k)).take 0)):=by rw [mP];unfold dU;simp [List.map_const']
 rw [Xh,W]at S;simp only [BZ,Xh,seval];refine step_ret (bRow_ok S.ok (m.gr S.gr) P p q s) ?_;rintro v X ⟨Y,E,Z⟩;have k3:=(S.row (b:=o) m0).lt S.ok;replace S:=S.call Y;generalize F:(zM f).filter (fj B g k)=L at E S;have G: ∀a∈L,a<f:=fun a J=>by rw [<-F]at J;exact List.mem_range.1 (List.mem_filter.1 J).1
 have ad:L.length<=f:=by rw [<-F];exact qO
 have af:=S.ok;have nA:=S.gr;simp only [BZ,E.lenq,seval];refine aV (fun(i:Nat) z h=>i<=L.length/\St NoM h0 h [(o,.row (dU f (fun a=>decide (a∈L.take i))) 1)] []/\(∀c,aq v c->h.get c=X.get c)/\z 5=.slice (some ⟨o,0,none⟩) f f/\z 21=v/\z 22=.int .i64 (L.length:Nat)/\z 23=.int .i64 i) (fun i=>L.length-i) ?_ 0 _ _ ?_
 . clear S;intro i ih z h ⟨hi,S,hv,r5,r21,r22,r23⟩;have w:am .i64 ((i:Int)+1)=((i+1:Nat):Int):=(by rw [wrap64]<;>omega);by_cases hlt:i<L.length
   . have K:=sl_get E hv;obtain⟨d,oo,x0,A⟩:=K.ix (kd:=.i64) dV hlt;have t:=G _ (Xd hlt);have H:dU f (fun u=>decide (u∈L.take (i+1)))=(dU f (fun u=>decide (u∈L.take i))).set L[i] (.bool true):=(by rw [zP];refine kM fun j _=>?_;rw [Xg hlt];simp only [Xu,XB];by_cases e1:j=L[i]<;>by_cases e2:j∈L.take i<;>simp [e1,e2]);rw [show(L.take (i+1))=L.take (i+1)from rfl]at H;generalize L[i]=x at t A H;replace A:h.load d oo 1=some [.int .i64 (x:Nat)]:=A;simp only [BZ,r5,r21,r22,r23,az,hlt,x0,A,seval];have M:=S;replace S:=S.base;simp only [BZ,t,seval];refine aC (aA S (i:=0) rfl Tryz.t4.2.2.1 lP (by rw [rE];exact t) ono) ?_;clear S;rintro D ⟨S,mo⟩;simp only [LC]at S;simp only [BZ,r23,w,seval];refine ih (i+1) _ _ (by omega) ⟨by omega,?_,?_,by simp [aw,r5,r21,r22]⟩
     . rw [H];exact M.rebase S
     . intro c C;have T:=Z c C;exact(mo.get c (K.blt M.ok C) (fun e=>by have e:c=o:=e;omega)).trans (hv c C)
   . have:i=L.length:=(by omega);subst this;simp only [BZ,ab,r5,r22,r23,az,hlt,seval];refine⟨S.gr,o,rfl,?_,y⟩;have e:dU f (fj B g k)=dU f (fun a=>decide (a∈L.take L.length)):=kM fun j hj=>(by rw [Xp,<-F];simp [Xy,hj]);rw [e];exact S.row m0
 . exact⟨Xe _,S,fun c C=>rfl,by simp [aw]⟩
theorem Cp{d:Gra}{c:Nat->Nat}{k a:Nat}(e:a<d.arcs.length):a∈dD d c k↔insB d c k a=true\/ ∃b∈(zM d.nodes).filter (borB d c k),jd d b a=true:=by unfold dD oN;rw [Xu,Xy,List.mem_flatMap];simp only [Xy,List.mem_range,e,true_and]
end Go.Ab
end
section
namespace Go.Ab
open Go.Proofs
set_option maxRecDepth 10000
def sfC(b c d e:Value)(way f t a:Int):List Value:=[b,c,d,e,.int .i64 way,.int .i64 f,.int .i64 t,.int .i64 a]
section
variable{hq:Hp}{bq bp nb nd mk:Nat}{γ:Gra}{pc pf pt:Value}{way f t a:Int}{fitB:Bool}
theorem sfNet_ok(R:Row hq bq (sfC pc pf (ptrTo bp) pt way f t a) 1){b1:Nat}(b:hq.load b1 0 1=some [ptrTo bq]): ∀h,Gr hq h->aN zO 143 [ptrTo b1] h (.bool true):=by intro h g;have S:=Si g.ok;have c:=(R.gr g).load1 (o:=2) rfl;refine aa (n:=7) (rs:=[.tmp 1]) rfl Tryz.e143 rfl rfl rfl (lbt rfl) ?_;simp only [BZ,ab,g.load b,c,seval];exact S.gr
theorem sfWay_ok(R:Row hq bq (sfC pc pf (ptrTo bp) pt way f t a) 1){b1:Nat}(c:hq.load b1 0 1=some [ptrTo bq]): ∀h,Gr hq h->aN zO 144 [ptrTo b1] h (.bool (decide (way=4\/way=5))):=by
 intro h g;have S:=Si g.ok;have d:=(R.gr g).load1 (o:=4) rfl;refine aa (n:=16) (rs:=[.tmp 1]) rfl Tryz.e144 rfl rfl rfl (lbt rfl) ?_;by_cases b:way=4
 . simp only [BZ,ab,g.load c,d,b,seval];exact⟨by simp [b],S.gr⟩
 . by_cases e:way=5
   . subst e;simp only [BZ,ab,g.load c,d,(by decide: ¬(5:Int)=4),seval];exact⟨by simp,S.gr⟩
   . simp only [BZ,ab,g.load c,d,b,e,seval];exact⟨by simp [b,e],S.gr⟩
theorem wB(c:aX hq nb (ptrTo bp) γ)(R:Row hq bq (sfC pc pf (ptrTo bp) pt way f t a) 1){v:Int}: ∀h,Gr hq h->aN zO 146 [ptrTo bq,.int .i64 v] h (.bool (decide (0<=v/\v<γ.nodes))):=by
 intro h g;have S:=Si g.ok;have d:=(R.gr g).load1 (o:=2) rfl;refine aa (n:=16) (rs:=[.tmp 4]) rfl Tryz.e146 rfl rfl rfl (lbt rfl) ?_;by_cases b:0<=v
 . simp only [BZ,d,b,seval];refine ag (bS S.ok ((c.gr g).gr S.gr)) ?_;intro h g;replace S:=S.call g;clear g;simp only [BZ,ab,seval];exact S.gr
 . simp only [BZ,ab,b,seval];exact⟨by simp [b],S.gr⟩
theorem sfFrom_ok(b:aX hq nb (ptrTo bp) γ)(R:Row hq bq (sfC pc pf (ptrTo bp) pt way f t a) 1){b1:Nat}(c:hq.load b1 0 1=some [ptrTo bq]): ∀h,Gr hq h->aN zO 145 [ptrTo b1] h (.bool (decide (0<=f/\f<γ.nodes))):=by intro h g;have S:=Si g.ok;have d:=(R.gr g).load1 (o:=5) rfl;refine aa (n:=9) (rs:=[.tmp 1]) rfl Tryz.e145 rfl rfl rfl (lbt rfl) ?_;simp only [BZ];refine ar (ax rfl) (q:=0) (ps:=[]) (by kernel_rfl) ?_;simp only [BZ,cls,g.load c,d,seval];refine bM (wB b R _ (g.trans S.gr)) ?_;intro i e;replace S:=S.call e;simp only [BZ,cls,ab,seval];exact S.gr
theorem sfTo_ok(b:aX hq nb (ptrTo bp) γ)(R:Row hq bq (sfC pc pf (ptrTo bp) pt way f t a) 1){b1:Nat}(c:hq.load b1 0 1=some [ptrTo bq]): ∀h,Gr hq h->aN zO 147 [ptrTo b1] h (.bool (decide (0<=t/\t<γ.nodes))):=by intro h g;have S:=Si g.ok;have d:=(R.gr g).load1 (o:=6) rfl;refine aa (n:=9) (rs:=[.tmp 1]) rfl Tryz.e147 rfl rfl rfl (lbt rfl) ?_;simp only [BZ];refine ar (ax rfl) (q:=0) (ps:=[]) (by kernel_rfl) ?_;simp only [BZ,cls,g.load c,d,seval];refine bM (wB b R _ (g.trans S.gr)) ?_;intro i e;replace S:=S.call e;simp only [BZ,cls,ab,seval];exact S.gr
theorem Bw(u:aX hq nb (ptrTo bp) γ)(T:TabO zO hq pt nd mk 43 42)(R:Row hq bq (sfC pc pf (ptrTo bp) pt way f t a) 1): ∀h,Gr hq h->aN zO 217 [ptrTo bq] h (.bool (decide (0<mk/\nd=γ.nodes))):=by
 intro h g;have w:=T.fl;have S:=Si g.ok;have z:=(R.gr g).lt g.ok;have e:=(R.gr g).load1 (o:=3) rfl;have v:=(R.gr g).load1 (o:=2) rfl;refine aa (n:=23) (rs:=[.tmp 2]) rfl Tryz.e217 rfl rfl rfl (lbt rfl) ?_;simp only [BZ];refine ar (ax rfl) (q:=0) (ps:=[(12,16)]) (by kernel_rfl) ?_;simp only [BZ,cls,e,seval];refine cu (T.marks _ (g.trans S.gr)) ?_;rintro r x ⟨b,l,i,el⟩;replace S:=S.call b;have j:=ao b z;by_cases k:0<mk
 . have d:(0:Int)<(l.length:Int):=(by omega);simp only [BZ,cls,i.lenq,d,b.load e,seval];refine bM (T.nodes _ (g.trans S.gr)) ?_;intro y c;have m:=ao c (Xb z b.n);replace S:=S.call c;simp only [BZ,cls,c.load (b.load v),seval];refine bM (bS S.ok ((u.gr g).gr S.gr)) ?_;intro A p;have s:=ao p (Xb z (b.trans c).n);replace S:=S.call p;simp only [BZ,cls,ab,seval];refine⟨by simp only [aK,aS,aH,aU,aJ,ne_eq,not_false_eq_true,aW,aZ,aT,aM,bA,ca,aD,Xf,ah,dh,aB j,aF j,aB m,aF m,aB s,aF s,seval],?_⟩;exact⟨by simp [k,Int.ofNat_inj],S.gr⟩
 . have d: ¬(0:Int)<(l.length:Int):=(by omega);simp only [BZ,cls,ab,i.lenq,d,seval];exact⟨by simp only [aK,aS,aH,aU,aJ,ne_eq,not_false_eq_true,jo,lS,Xf,seval],by simp [k],S.gr⟩
def jD(fitB:Bool)(way:Int)(mk nd N:Nat):Bool:=fitB&&(decide (way≠5)||decide (0<mk/\nd=N))
theorem sfFits_ok(i:aX hq nb (ptrTo bp) γ)(T:TabO zO hq pt nd mk 43 42)(R:Row hq bq (sfC pc pf (ptrTo bp) pt way f t a) 1)(m:Fl pc)(p:Fl pf)(F: ∀h,Gr hq h->aN zO 44 [ptrTo bp,pc,pf] h (.bool fitB)):
 ∀h,Gr hq h->aN zO 148 [ptrTo bq] h (.bool (jD fitB way mk nd γ.nodes)):=by
 intro h g;have S:=Si g.ok;have z:=(R.gr g).lt g.ok;have j:=(R.gr g).load1 (o:=0) rfl;have k:=(R.gr g).load1 (o:=1) rfl;have l:=(R.gr g).load1 (o:=2) rfl;have d:=(R.gr g).load1 (o:=4) rfl;refine aa (n:=30) (rs:=[.tmp 2]) rfl Tryz.e148 rfl rfl rfl (lbt rfl) ?_;simp only [BZ];refine ar (ax rfl) (q:=0) (ps:=[]) (by kernel_rfl) ?_;simp only [BZ,cls,j,k,l,seval];refine bM (F _ (g.trans S.gr)) ?_;intro r b;have s:=ao b z;replace S:=S.call b;cases fitB with
 | false=>simp only [BZ,cls,ab,seval];exact⟨by simp [jD],S.gr⟩| true=>
   by_cases c:way=5
   . simp only [BZ,cls,b.load d,c,seval];refine bM (Bw i T R _ (g.trans S.gr)) ?_;intro u e;have v:=ao e (Xb z b.n);replace S:=S.call e;simp only [BZ,cls,ab,seval];exact⟨by simp [jD],S.gr⟩
   . simp only [BZ,cls,ab,b.load d,c,seval];exact⟨by simp [jD,c],S.gr⟩
end
end Go.Ab

end
section
namespace Go.Ab
open Go.Proofs
set_option maxRecDepth 10000
structure Rs where
 g:FuncId
 pre:Array Value
 post:Array Value
 ok:Bool
 code:Int
def argS(r:Rs):List Value:=[.int .i64 r.code,.func (.func r.g) r.pre r.post]
def pS:List Rs->Int
 | []=>0|r::a=>if r.ok=true then pS a else r.code
theorem firstS_at{rs:List Rs}{i:Nat}{r:Rs}(h:rs[i]? =some r)(a: ∀q∈rs.take i,q.ok=true)(b:r.ok≠true):pS rs=r.code:=by
 induction rs generalizing i with
 |nil=>cases h
 | cons q rs c=>
   cases i with
   |zero=>cases h;unfold pS;rw [if_neg b]
   | succ i=>
     rw [pS,if_pos (a q (by simp))];exact c (by simpa using h) (fun x d=>a x (by simp [d]))
theorem CA{rs:List Rs}(h: ∀q∈rs,q.ok=true):pS rs=0:=by
 induction rs with
 |nil=>rfl|cons q rs a=>rw [pS,if_pos (h q (by simp))];exact a (fun x b=>h x (by simp [b]))
def sfRs(b1 bq:Nat)(okW okF okT okX:Bool):List Rs:=[⟨143,#[],#[ptrTo b1],true,1⟩,⟨144,#[],#[ptrTo b1],okW,16⟩,⟨145,#[],#[ptrTo b1],okF,17⟩,⟨147,#[],#[ptrTo b1],okT,18⟩,⟨148,#[ptrTo bq],#[],okX,19⟩]
theorem looks_ok{h0:Hp}(c:h0.t.Sized h0.n){bq:Nat}:Ret zO 55 [ptrTo bq] h0 fun v b=>Gr h0 b/\ ∃b1,v=.func (.func 142) #[] #[ptrTo b1]/\h0.n<=b1/\b.load b1 0 1=some [ptrTo bq]:=by have S:=Si c;refine aa (n:=4) (rs:=[.tmp 2]) rfl Tryz.e55 rfl rfl rfl (lbt rfl) ?_;simp only [BZ,seval];refine ac (bW (by exact cP)) S ?_;clear S;intro h b1 S a;simp only [BZ,ab,seval];exact⟨S.gr,b1,rfl,a,S.ld m0 rfl⟩
theorem looks1_it{h0:Hp}(f:h0.t.Sized h0.n){b1 bq:Nat}(g:h0.load b1 0 1=some [ptrTo bq]){okW okF okT okX:Bool}:mi zO 142 [] [ptrTo b1] h0 (fun c=>c=b1) ((sfRs b1 bq okW okF okT okX).map argS):=by
 intro l J Z e Y h F s b;have S:=Si s.ok;refine enter (n:=27) (rs:=[]) rfl Tryz.e142 rfl rfl rfl (lbt rfl) ?_;simp only [BZ,seval];refine cZ Y s b (i:=0) rfl ?_ ?_ (fun v d a=>absurd a (e v d));rotate_left
 . intro d a _;simp only [BZ,seval];exact cy (cJ ⟨rfl,_,rfl,rfl,.inr (.inl ⟨_,rfl,a⟩)⟩)
 clear b s;intro m o b s _ _;simp only [BZ,seval];refine cZ Y s b (i:=1) rfl ?_ ?_ (fun v d a=>absurd a (e v d));rotate_left
 . intro d a _;simp only [BZ,seval];exact cy (cJ ⟨rfl,_,rfl,rfl,.inr (.inl ⟨_,rfl,a⟩)⟩)
 clear b s;intro p q b s _ _;simp only [BZ,seval];refine cZ Y s b (i:=2) rfl ?_ ?_ (fun v d a=>absurd a (e v d));rotate_left
 . intro d a _;simp only [BZ,seval];exact cy (cJ ⟨rfl,_,rfl,rfl,.inr (.inl ⟨_,rfl,a⟩)⟩)
 clear b s;intro d r b s _ _;simp only [BZ,seval];refine cZ Y s b (i:=3) rfl ?_ ?_ (fun v d a=>absurd a (e v d));rotate_left
 . intro d a _;simp only [BZ,seval];exact cy (cJ ⟨rfl,_,rfl,rfl,.inr (.inl ⟨_,rfl,a⟩)⟩)
 clear b s;intro t u b s _ _;have j:=s.load f g rfl;simp only [BZ,j,seval];refine cZ Y s b (i:=4) rfl ?_ ?_ (fun v d a=>absurd a (e v d));rotate_left
 . intro d a _;simp only [BZ,seval];exact cy (cJ ⟨rfl,_,rfl,rfl,.inr (.inl ⟨_,rfl,a⟩)⟩)
 clear b s;intro w k b s _ _;simp only [BZ,seval];exact cy (cJ ⟨rfl,_,rfl,rfl,.inl ⟨_,k,rfl,b⟩⟩)
theorem exTo{h0:Hp}(c:h0.t.Sized h0.n){a:Gra}(b:Good a){d:Value}{e:Nat}(f:aX h0 e d a){s:Nat}(g:s<a.nodes)(v:Nat):IsD (seen a.arcs Arc.t Arc.s) s v (dOf (seen a.arcs Arc.t Arc.s) s v):=by obtain⟨_,_,_,_,_,_,_,D,_,_,_,_,_,_,_,h,_⟩:=rN c b f g;exact(vu (h v)).2
theorem sV{h0:Hp}(c:h0.t.Sized h0.n){a:Gra}(b:Good a){d:Value}{e:Nat}(f:aX h0 e d a){s:Nat}(g:s<a.nodes)(v:Nat):IsD (seen a.arcs Arc.s Arc.t) s v (dOf (seen a.arcs Arc.s Arc.t) s v):=by obtain⟨_,_,_,_,_,_,_,D,_,_,_,_,_,_,_,h,_⟩:=sk c b f g;exact(vu (h v)).2
theorem ry(B:List Arc)(N s:Nat):(oV B N s).length=N:=by simp [oV]
theorem rowD_at{B:List Arc}{N s v:Nat}(a:v<N):(oV B N s).getD v 0=(dOf B s v:Nat):=by simp [oV,Xa,a]
theorem nQ{a:Gra}{l:List Int}{i v:Nat}(c:i<l.length)(b:v<a.nodes):gz a.nodes l.length (toR a l) i v=(dOf (seen a.arcs Arc.t Arc.s) (l.getD i 0).toNat v:Nat):=by unfold gz;rw [if_pos ⟨by omega,by omega,by omega,by omega⟩,Xh,Xh];exact rowD_at b
theorem nu{a:Gra}{l:List Int}{i v:Nat}(c:i<l.length)(b:v<a.nodes):gz a.nodes l.length (frR a l) i v=(dOf (seen a.arcs Arc.s Arc.t) (l.getD i 0).toNat v:Nat):=by unfold gz;rw [if_pos ⟨by omega,by omega,by omega,by omega⟩,Xh,Xh];exact rowD_at b
theorem mO{a b:Nat}(c:a<=72057594037927936)(d:b<=72057594037927936):nC (a:Int) (b:Int)=if b<72057594037927936 then(if a<72057594037927936 then max 0 ((a:Int)-b)else 72057594037927936)else 0:=by
 unfold nC wy
 repeat' split
 all_goals omega
theorem xR(A:List Arc): ∀a∈seen A Arc.s Arc.t,∃b∈seen A Arc.t Arc.s,b.s=a.t/\b.t=a.s/\b.w=a.w:=by intro a d;obtain⟨i,c,e⟩:=Ak d;have f:=(tH (fs:=Arc.s) (ft:=Arc.t) c).1;obtain⟨g,h⟩:=tH (fs:=Arc.t) (ft:=Arc.s) c;refine⟨_,h,?_⟩;rw [g,<-e,f];exact⟨rfl,rfl,rfl⟩
theorem eS(b:Gra):seen b.arcs Arc.s Arc.t=b.arcs:=by unfold seen;exact(XQ (fun a _=>rfl)).trans (List.map_id _)

end Go.Ab
end
section
namespace Go.Ab
inductive my(A:List Arc)(s:Nat):List Nat->Nat->Nat->Prop where
 |nil:my A s [] s 0
 |snoc {l:List Nat} {w a:Nat}:my A s l (A.getD a default).s w->a<A.length->my A s (l++[a]) (A.getD a default).t (w+(A.getD a default).w)
def endA(A:List Arc)(s:Nat)(l:List Nat)(i:Nat):Nat:=if i=0 then s else(A.getD (l.getD (i-1) 0) default).t
def sumA(A:List Arc)(l:List Nat)(k:Nat):Nat:=((l.take k).map fun a=>(A.getD a default).w).sum
theorem uo{l:List Nat}{a i:Nat}(h:i<l.length):(l++[a]).getD i 0=l.getD i 0:=by rw [Xa,Xa,Xv h]
theorem ue{l:List Nat}{a:Nat}:(l++[a]).getD l.length 0=a:=by simp [Xa]
theorem zx{A:List Arc}{s a i:Nat}{l:List Nat}(h:i<=l.length):endA A s (l++[a]) i=endA A s l i:=by
 unfold endA
 split
 . rfl
 . rw [uo (by omega)]
theorem my.at{A:List Arc}{s t w:Nat}{l:List Nat}(h:my A s l t w):(∀i,i<l.length->l.getD i 0<A.length/\(A.getD (l.getD i 0) default).s=endA A s l i)/\endA A s l l.length=t/\sumA A l l.length=w:=by
 induction h with
 |nil=>exact⟨fun i c=>absurd c (Nat.not_lt_zero _),rfl,rfl⟩
 | @snoc l w a _ d e=>
   obtain⟨f,g,b⟩:=e;have j:(l++[a]).length=l.length+1:=(by simp);refine⟨fun i c=>?_,?_,?_⟩
   . rcases Nat.lt_or_ge i l.length with h|h
     . rw [uo h,zx (Nat.le_of_lt h)];exact f i h
     . have:i=l.length:=(by omega);subst this;rw [ue,zx (Xs _)];exact⟨d,g.symm⟩
   . rw [j];unfold endA;rw [if_neg (by omega),Nat.add_sub_cancel,ue]
   . unfold sumA at b⊢;rw [Xp]at b⊢;rw [List.map_append,List.sum_append,b];rfl
section
variable{A:List Arc}{N s:Nat}{al:Nat->Bool}{pi:Nat->Int}{σ:SS}
theorem Sv.pathA(h:Sv A N s al pi σ): ∀(n:Nat) {v:Nat},(σ.P v).length<=n->(v∈σ.O\/σ.K v≠none)->my A s (σ.P v).reverse v (σ.L v):=by
 intro n
 induction n with
 | zero=>
   intro v b c;rcases h.path v c with⟨rfl,d,e⟩|⟨a,_,_,_,_,f,_⟩
   . rw [d,e];exact .nil
   . rw [f]at b;simp at b
 | succ n g=>
   intro v b c;rcases h.path v c with⟨rfl,d,e⟩|⟨a,i,_,j,k,f,l⟩
   . rw [d,e];exact .nil
   . rw [f]at b⊢;rw [l,List.reverse_cons,<-j];exact .snoc (g (by rw [List.length_cons]at b;omega) (.inl k)) i
theorem yo{to:Nat}{r:Fd}(c: ∀a∈A,a.t<N/\a.w<=du)(d:Ends A al pi to σ r):Sv A N s al pi σ->r.dist<FAR->my A s r.arcs to r.dist:=by
 induction d with
 |none g=>intro _ h;exact absurd h (Nat.lt_irrefl _)| @hit σ k b=>intro h _;exact h.pathA _ (Xs _) (.inr (by rw [b.1];nofun))| @step σ v k r b e _ f=>intro h;exact f (h.next c b.1).1
end
end Go.Ab

end
section
namespace Go.Ab
open Go.Proofs
set_option maxRecDepth 10000
theorem ends_len{A:List Arc}{N s to:Nat}{al:Nat->Bool}{pi:Nat->Int}{σ:SS}{r:Fd}(f: ∀a∈A,a.t<N/\a.w<=du)(l:N<=12)(m:A.length<=100)(g:Ends A al pi to σ r):Sv A N s al pi σ->σ.ev.length<=σ.O.length*200->r.arcs.length<=12/\r.ev.length<=3000:=by
 induction g with
 | @none σ n=>intro h b;have:=h.len;exact⟨Xe _,by show σ.ev.length<=3000;omega⟩| @hit σ k c=>intro h b;have d:=h.len;have e:=(h.bd to).2;refine⟨by show(σ.P to).reverse.length<=12;rw [List.length_reverse];omega,?_⟩;show(σ.ev++[_]).length<=3000;simp;omega| @step σ v k r c i _ j=>
   intro h b;obtain⟨d,e⟩:=h.next f c.1
   refine j d ?_;have o:=AU A al pi v (dC σ v);have p:(dC σ v).ev.length=σ.ev.length+1:=(by show(σ.ev++[_]).length=_;simp);rw [e.O];show _<=(σ.O++[v]).length*200;simp;omega
theorem sn{d:Gra}(b:Good d){s to:Nat}(g:s<d.nodes){al:Nat->Bool}{pi:Nat->Int}{c:Fd}(e:(s=to/\c=⟨0,[],[]⟩)\/(s≠to/\Ends d.arcs al pi to (dg pi s) c)):c.arcs.length<=12/\c.ev.length<=3000:=by
 rcases e with⟨_,rfl⟩|⟨_,e⟩
 . exact⟨Xe _,Xe _⟩
 . refine ends_len (fun a f=>⟨(b.arcs a f).2.1,(b.arcs a f).2.2⟩) b.n2 b.many e (lN g) ?_;have h:(dg pi s).ev.length=0:=(by unfold dg;rw [uG];rfl);omega
end Go.Ab
end
section
namespace Go.Ab
open Go.Proofs
theorem isD_back{A:List Arc}{b v x:Nat}(h:IsD (seen A Arc.t Arc.s) b v x):IsD A v b x:=by
 have j: ∀a∈A,∃e∈seen A Arc.t Arc.s,e.s=a.t/\e.t=a.s/\e.w=a.w:=fun a d=>⟨⟨a.t,a.s,a.w⟩,List.mem_map_of_mem d,rfl,rfl,rfl⟩;have k: ∀a∈seen A Arc.t Arc.s,∃e∈A,e.s=a.t/\e.t=a.s/\e.w=a.w:=fun a d=>by obtain⟨e,m,rfl⟩:=List.mem_map.1 d;grind
 have c: ∀w,Wk A v b w↔Wk (seen A Arc.t Arc.s) b v w:=fun w=>⟨fun h=>by simpa using Wk.back j h .nil,fun h=>by simpa using Wk.back k h .nil⟩;rcases h with⟨f,g,l⟩|⟨f,g⟩
 . exact .inl ⟨f,(c x).2 g,fun w i=>l w ((c w).1 i)⟩
 . exact .inr ⟨f,fun w i=>g w ((c w).1 i)⟩
section
variable{A:List Arc}{N s:Nat}{al:Nat->Bool}{pi:Nat->Int}{σ:SS}
theorem Sv.als(h:Sv A N s al pi σ): ∀(n:Nat) {v:Nat},(σ.P v).length<=n->(v∈σ.O\/σ.K v≠none)-> ∀a∈σ.P v,a<A.length/\al a=true:=by
 intro n
 induction n with
 | zero=>grind| succ n d=>
   intro v e c a f;rcases h.path v c with⟨rfl,g,_⟩|⟨b,i,j,_,k,l,_⟩
   . grind
   grind
end
end Go.Ab

end
section
namespace Go.Ab
def onF(A:List Arc)(d:Nat->Nat->Nat)(c:Nat->Nat)(k:Nat)(a:Arc):Prop:=
 (c a.s=k/\c a.t=k)\/ ∃b,(c b=k/\ ∃e∈A,e.t=b/\c e.s≠k)/\d a.s b<FAR/\d a.t b<FAR/\d a.s b=a.w+d a.t b
inductive WkC(A:List Arc)(t:Nat):Nat->Nat->Prop where
 |nil:WkC A t t 0
 |cons {y:Nat} {a:Arc}:a∈A->WkC A t a.t y->WkC A t a.s (a.w+y)
section
variable{A On:List Arc}{N:Nat}{d:Nat->Nat->Nat}{c:Nat->Nat}{k:Nat}
theorem Wk.toC{s v x t y:Nat}(h:Wk A s v x):WkC A t v y->WkC A t s (x+y):=by
 induction h generalizing y with
 |nil=>grind| @snoc w a b _ e=>intro h;have:=e (.cons b h);grind
theorem WkC.toW{t v y:Nat}(h:WkC A t v y):Wk A v t y:=by
 induction h with
 |nil=>exact .nil| @cons y a b _ e=>have f:Wk A a.s a.t (0+a.w):=.snoc b .nil;have:=f.trans e;grind
theorem IsD.le_wk{s v x y:Nat}(h:IsD A s v x)(k:Wk A s v y):x<=y/\x<FAR:=⟨(h.wk k).2.1,(h.wk k).1⟩
variable(hA: ∀a∈A,a.s<N/\a.t<N)(hd: ∀v b,v<N->b<N->IsD A v b (d v b))(hOn: ∀a,a∈On↔a∈A/\onF A d c k a)
include hA hd hOn
theorem on_tight{s b:Nat}(m:s<N)(f:b<N)(g:c b=k/\ ∃e∈A,e.t=b/\c e.s≠k)(hf:d s b<FAR){v x:Nat}(h:Wk A s v x):v<N->x+d v b=d s b->Wk On s v x:=by
 induction h with
 |nil=>intro _ _;exact .nil| @snoc x a i n o=>
   intro _ t;obtain⟨j,p⟩:=hA a i;have q:Wk A a.s a.t (0+a.w):=.snoc i .nil;have r:=(hd a.t b p f).far (by omega);have l:=(hd a.s b j f).le_wk (q.trans r);have u:=(hd s b m f).le_wk (n.trans ((hd a.s b j f).far l.2));refine .snoc ((hOn a).2 ⟨i,.inr ⟨b,g,l.2,by omega,by omega⟩⟩) (o j (by omega))
theorem on_cut{t:Nat}(g:t<N)(C:c t=k){v y:Nat}(h:WkC A t v y):v<N->y=d v t->(c v=k/\Wk On v t y)\/ ∃b z n,b<N/\(c b=k/\ ∃e∈A,e.t=b/\c e.s≠k)/\Wk A v b z/\z=d v b/\Wk On b t n/\z+n=y:=by
 have i: ∀{u w x},Wk On u w x->Wk A u w x:=fun h=>h.mono (fun a j=>((hOn a).1 j).1)
 induction h with
 |nil=>intro _ _;exact .inl ⟨C,.nil⟩| @cons y a j r D=>
   intro _ K;obtain⟨f,l⟩:=hA a j;have m:Wk A a.s a.t (0+a.w):=.snoc j .nil;rw [Xz]at m;have E:=(hd a.t t l g).le_wk r.toW;have L:=(hd a.s t f g).le_wk (m.trans ((hd a.t t l g).far E.2));rcases D l (by omega)with⟨F,G⟩|⟨b,z,n,o,p,s,M,B,O⟩
   . by_cases H:c a.s=k
     . have I:Wk On a.s a.t (0+a.w):=.snoc ((hOn a).2 ⟨j,.inl ⟨H,F⟩⟩) .nil;have:=I.trans G;grind
     . have q:=(hd a.s a.t f l).le_wk m;have J:=(hd a.s t f g).le_wk (((hd a.s a.t f l).far q.2).trans r.toW);grind
   . have q:=(hd a.s b f o).le_wk (m.trans s);have J:=(hd a.s t f g).le_wk (((hd a.s b f o).far q.2).trans (i B));exact .inr ⟨b,a.w+z,n,o,p,m.trans s,by omega,B,by omega⟩
theorem CM{s t x:Nat}(i:s<N)(p:t<N)(v:c t=k)(y:IsD A s t x):IsD On s t x:=by
 have f: ∀{u w x},Wk On u w x->Wk A u w x:=fun h=>h.mono (fun a B=>((hOn a).1 B).1);rcases y with⟨j,l,q⟩|⟨j,l⟩
 . refine .inl ⟨j,?_,fun w m=>q w (f m)⟩;have e:x=d s t:=IsD.uniq (.inl ⟨j,l,q⟩) (hd s t i p);have C:=l.toC (t:=t) .nil;rcases on_cut hA hd hOn p v C i (by omega)with⟨_,h⟩|⟨b,z,E,g,n,r,F,D,G⟩
   . exact h
   . have hf:=((hd s b i g).le_wk r).2;have H:=(hd b b g g).self;have o:=on_tight hA hd hOn i g n hf r g (by omega);have:=o.trans D;grind
 . exact .inr ⟨j,fun w m=>l w (f m)⟩
end
end Go.Ab

end
section
namespace Go.Ab
open Go.Proofs
end Go.Ab

end
section
namespace Go.Ab
open Go.Proofs
set_option maxRecDepth 10000


theorem fold_ge(l:List Int)(a:Int):a<=l.foldl max a/\ ∀x∈l,x<=l.foldl max a:=by
 induction l generalizing a with
 |nil=>exact⟨XA _,fun x h=>by cases h⟩
 | cons y e c=>
   obtain⟨f,d⟩:=c (max a y);refine⟨by rw [XM];omega,fun x b=>?_⟩;rw [XM];rcases List.mem_cons.1 b with rfl|b
   . omega
   . exact d x b
theorem lmax_ge{l:List Int}{x:Int}(h:x∈l):x<=fS l:=by
 cases l with
 |nil=>cases h
 | cons y a=>
   rw [fS];rcases List.mem_cons.1 h with rfl|h
   . exact(fold_ge a _).1
   . exact(fold_ge a _).2 x h
theorem slB_of{h:Hp}{a n:Nat}{f:Nat->Bool}(R:Row h a (dU n f) 1):av h 1 encB (.slice (some ⟨a,0,none⟩) n n) ((zM n).map f):=by refine .inr ⟨a,0,none,n,by simp,by simp,?_⟩;rw [R.load (by rw [rE];simp),List.drop_zero,List.take_of_length_le (by rw [rE];simp),List.flatMap_map];exact congrArg some List.map_eq_flatMap
theorem alF_of{n:Nat}{f:Nat->Bool}{i:Nat}(a:i<n):alF ((zM n).map f) i=f i:=by
 unfold alF;have:((zM n).map f).isEmpty=false:=by
  cases n with
  |zero=>omega|succ n=>simp [List.range_succ]
 rw [this,Bool.false_or];simp [Xa,a]
theorem zo{E:Env}{ρ:Operand->Value}{h:Hp}{t:TypeId}{m k v:Operand}:aop E ρ h (.insert t m k v)=fg (dZ E h t (ρ m) (ρ k) (ρ v)):=rfl
def rC(okW okF okT okX:Bool):Int:=if okW=true then(if okF=true then(if okT=true then(if okX=true then 0 else 19)else 18)else 17)else 16
theorem firstS_sf{b1 bq:Nat}{okW okF okT okX:Bool}:pS (sfRs b1 bq okW okF okT okX)=rC okW okF okT okX:=by cases okW<;>cases okF<;>cases okT<;>cases okX<;>rfl
def sfP(N:Nat)(l:List Int)(R Q:Nat->List Int)(act:List Int)(way:Int)(w:Nat):List Int:=if way=5 then(zM N).map (fun(v:Nat)=>cR N l.length R Q v w act)else []
theorem Ch{okW okF okT okX:Bool}(h:rC okW okF okT okX=0):okW=true/\okF=true/\okT=true/\okX=true:=by cases okW<;>cases okF<;>cases okT<;>cases okX<;>first|exact⟨rfl,rfl,rfl,rfl⟩|(exact absurd h (by decide))
theorem B8{h0:Hp}(a:h0.t.Sized h0.n){bq:Nat}:aN zO 56 [ptrTo bq] h0 (.tuple #[.slice none 0 0,.slice none 0 0]):=by have S:=Si a;refine aa (n:=4) (rs:=[.tmp 2,.tmp 3]) rfl Tryz.e56 rfl rfl rfl (lbt rfl) ?_;simp only [BZ,ab,seval];exact S.gr
theorem CR{h0:Hp}(C:h0.t.Sized h0.n){bq m N:Nat}{D E F j:Value}{way a:Int}{s w:Nat}{l:List Int}{R Q:Nat->List Int}(d:Row h0 bq (sfC D E F j way s w a) 1)(t:TabAt h0 m j N l R Q)(p: ∀i,i<l.length->(R i).length=N)(u: ∀i,i<l.length->(Q i).length=N)(G:l.length<=16)(P:N<=100)(T:s<N)(H:w<N):
 Ret zO 57 [ptrTo bq] h0 fun r k=>Gr h0 k/\ ∃e f,r=.tuple #[e,f]/\av k 1 cq e (iP N l.length R Q s w a)/\av k 1 (encI .i64) f ((zM N).map fun(v:Nat)=>cR N l.length R Q v w ((iP N l.length R Q s w a).map fun(x:Nat)=>(x:Int)))/\ ∀c,(aq e c\/aq f c)->h0.n<=c:=by
 have S:=Si C;have U:Fl j:=by obtain⟨b,_,_,_,rfl,_⟩:=t.ex;exact cP
 have y:=d.load1 (o:=3) rfl;have I:=d.load1 (o:=5) rfl;have z:=d.load1 (o:=6) rfl;have J:=d.load1 (o:=7) rfl;refine aa (n:=36) (rs:=[.tmp 2,.tmp 3]) rfl Tryz.e57 rfl rfl rfl (lbt rfl) ?_;simp only [BZ];refine ar (ax rfl) (q:=0) (ps:=[]) (by kernel_rfl) ?_;simp only [BZ,cls,y,I,z,J,seval];refine cu (vk S.ok t p u G) ?_;rintro e h ⟨g,A,K⟩;replace S:=S.call g;have V:(iP N l.length R Q s w a).length<=16:=by unfold iP;rw [XJ];omega
 have W:=g.n;simp only [BZ,cls,seval];refine ar (ax rfl) (q:=0) (ps:=[]) (by kernel_rfl) ?_;simp only [BZ,cls,g.load y,g.load z,seval];refine cu (bPi_ok S.ok (t.gr g) p u (by omega) (by omega) (vV A) (by rw [Xr];omega) H) ?_;rintro f X ⟨B,L,M⟩;replace S:=S.call B;simp only [BZ,cls,ab,seval];exact⟨S.gr,_,_,rfl,A.gr B,L,fun c O=>O.elim (K c) (fun h=>by have:=M c h;omega)⟩
theorem C6 {h0:Hp} (ok:h0.t.Sized h0.n) {bp nb nd:Nat} {j:Gra} (al:Good j) (hn:aX h0 nb (ptrTo bp) j) {pt pc pf:Value} {l:List Int} {R Q:Nat->List Int} (T:TabQ h0 pt nd l R Q) (hl:l.length<=16) (fc:Fl pc) (ff:Fl pf) {A:Bool} (F: ∀h,Gr h0 h->aN zO 44 [ptrTo bp,pc,pf] h (.bool A))
 {mb fp fb ad af:Nat} {m:List Int} {cf:Nat->Nat} {Bt:Nat->Nat} (P:A=true->gc h0 mb pc j.nodes m cf/\pf=ptrTo fp/\eX h0 fp fb ad j.arcs.length af Bt/\ad<=100/\af=(j.arcs.length+7)/8/\ ∀v,v<j.nodes->cf v<ad) {way f t a:Int}:
 Ret zO 15 [ptrTo bp,pt,.agg ⟨[pc,pf]⟩,.agg ⟨[.int .i64 way,.int .i64 f,.int .i64 t,.int .i64 a]⟩] h0 fun r J=>Gr h0 J/\ ∃c d vA vB vE,r=.tuple #[mS c d vA vB,vE]/\(∀x,(aq vA x\/aq vB x\/aq vE x)->h0.n<=x)/\
  (((rC (decide (way=4\/way=5)) (decide (0<=f/\f<j.nodes)) (decide (0<=t/\t<j.nodes)) (jD A way l.length nd j.nodes)≠0\/f=t)/\c=rC (decide (way=4\/way=5)) (decide (0<=f/\f<j.nodes)) (decide (0<=t/\t<j.nodes)) (jD A way l.length nd j.nodes)/\d=0/\vA=.slice none 0 0/\vB=.slice none 0 0/\vE=.slice none 0 0)\/
   (rC (decide (way=4\/way=5)) (decide (0<=f/\f<j.nodes)) (decide (0<=t/\t<j.nodes)) (jD A way l.length nd j.nodes)=0/\ ∃(s w:Nat) (O:Fd),f=s/\t=w/\s≠w/\s<j.nodes/\w<j.nodes/\
     Ends j.arcs (alF ((zM j.arcs.length).map (fj Bt af (cf w)))) (piF (sfP j.nodes l R Q ((iP j.nodes l.length R Q f t a).map fun(x:Nat)=>(x:Int)) way w)) w (dg (piF (sfP j.nodes l R Q ((iP j.nodes l.length R Q f t a).map fun(x:Nat)=>(x:Int)) way w)) s) O/\
     av J 4 gG vE O.ev/\
     ((FAR<=O.dist/\c=20/\d=0/\vA=.slice none 0 0/\vB=.slice none 0 0)\/
      (O.dist<FAR/\c=0/\d=(O.dist:Nat)/\av J 1 cq vA O.arcs/\av J 1 cq vB (if way=5 then iP j.nodes l.length R Q f t a else []))))):=by
 have S:=Si ok;have dj:=dR;have To:=T.tabO (by omega);have ft:Fl pt:=To.fl;have n1:=al.n1;have n2:=al.n2;have c4:=al.many;obtain⟨cc,V⟩: ∃cc,rC (decide (way=4\/way=5)) (decide (0<=f/\f<j.nodes)) (decide (0<=t/\t<j.nodes)) (jD A way l.length nd j.nodes)=cc:=⟨_,rfl⟩;refine aa (n:=84) (rs:=[.cell 8 43,.cell 9 44]) rfl Tryz.e15 rfl rfl rfl (lbt rfl) ?_;simp only [BZ,seval];refine ac (bg (by intro x e;cases e)) S ?_;clear S;intro h b6 S c5;simp only [ae]at S;simp only [BZ,if_false,seval];refine ac (bg (by intro x e;cases e)) S ?_;clear S;intro h b7 S c6;simp only [ae]at S;simp only [BZ];refine ac ay S ?_;clear S;intro h B S c9;simp only [BZ];refine ac ay S ?_;clear S;intro h C S da;simp only [BZ,ft,List.drop_zero,List.take_succ_cons,XN,S.lds (b:=b6) (o:=0) (n:=2) m3 (lbt rfl),S.lds (b:=b7) (o:=0) (n:=4) m2 (lbt rfl),seval];refine ac (bg (by intro x e;cases e)) S ?_;clear S;intro h G S b4;simp only [ae]at S;have Rq:Row h G (sfC pc pf (ptrTo bp) pt way f t a) 1:=S.row (b:=G) m0;have gq:=S.gr;have dn:=S.ok;have R6:=S.row (b:=b6) m4;have R7:=S.row (b:=b7) m3;have R8:=S.row (b:=B) m2;have R9:=S.row (b:=C) m1;have b5:C≠B/\(b7≠B/\b7≠C)/\(b6≠B/\b6≠C)/\G≠B/\G≠C:=by have ap:=S.apart;simp [keys]at ap;omega
 obtain⟨E,n7,n6,nq⟩:=b5;rename Hp=>hq;simp only [BZ,seval];refine step_ret (looks_ok S.ok) ?_;rintro r W ⟨g,b1,rfl,ds,y1⟩;have gA:=gq.trans g;replace Rq:=Rq.gr g;replace R6:=R6.gr g;replace R7:=R7.gr g;replace R8:=R8.gr g;replace R9:=R9.gr g;have an:=gA.ok;clear S;have S:=Si an;have a7:=hn.gr gA;have cb:=(T.gr gA).tabO (show l.length<1000 by omega);have FA: ∀h,Gr W h->aN zO 44 [ptrTo bp,pc,pf] h (.bool A):=fun h g=>F h (gA.trans g);have s1:=sfNet_ok Rq y1;have s2:=sfWay_ok Rq y1;have s3:=sfFrom_ok a7 Rq y1;have s4:=sfTo_ok a7 Rq y1;have s5:=sfFits_ok a7 cb Rq fc ff FA;have it:=looks1_it an y1 (okW:=decide (way=4\/way=5)) (okF:=decide (0<=f/\f<j.nodes)) (okT:=decide (0<=t/\t<j.nodes)) (okX:=jD A way l.length nd j.nodes);have e0:=firstS_sf (b1:=b1) (bq:=G) (okW:=decide (way=4\/way=5)) (okF:=decide (0<=f/\f<j.nodes)) (okT:=decide (0<=t/\t<j.nodes)) (okX:=jD A way l.length nd j.nodes);have bP: ∀r∈sfRs b1 G (decide (way=4\/way=5)) (decide (0<=f/\f<j.nodes)) (decide (0<=t/\t<j.nodes)) (jD A way l.length nd j.nodes),∀h,Gr W h->aN zO r.g (r.pre.toList++r.post.toList) h (.bool r.ok):=by
  intro r hr;simp only [sfRs,Xm,Xi,or_false]at hr;rcases hr with rfl|rfl|rfl|rfl|rfl
  . exact s1
  . exact s2
  . exact s3
  . exact s4
  . exact s5
 clear s1 s2 s3 s4 s5;generalize cg:sfRs b1 G (decide (way=4\/way=5)) (decide (0<=f/\f<j.nodes)) (decide (0<=t/\t<j.nodes)) (jD A way l.length nd j.nodes)=rs at it e0 bP;rw [V]at e0;have k8:=R8.lt an;have k9:=R9.lt an;simp only [BZ];refine hZ S (g:=142) (a:=#[]) (b:=#[ptrTo b1]) (by simp [bA,aw,ah]) rfl rfl ?_;intro h2 H lb S' dt dv g2;obtain⟨X,hX,S'⟩: ∃X:fu,X=_/\St NoM W h2 [(lb,.loop X),(H,.dfr)] []:=⟨_,rfl,S'⟩;have hJ :Yld zO lb (fun k J F=>St NoM W J [(lb,.loop X),(H,.dfr)] []/\(∀q∈rs.take k,q.ok=true)/\F=keys [(lb,Ob.loop X),(H,.dfr)] [])
  (fun o J=>o=.ret (.bool false)/\ ∃(Y:fu),cc≠0/\Y.st=2/\Y.pending=some .ret/\St (· ∈[C,B]) W J [(lb,.loop Y),(H,.dfr),(C,.row [.slice none 0 0] 1),(B,.row [.int .i64 cc,.int .i64 0,.slice none 0 0,.slice none 0 0] 1)] []) (rs.map argS):=by
  refine⟨?_,?_,?_,?_⟩
  . rintro i h F ⟨S,_,rfl⟩;exact⟨S.ok,fun b K=>S.key_lt K⟩
  . rintro i h F J ⟨S,a,rfl⟩ gg;exact⟨S.call gg,a,rfl⟩
  . rintro h J ⟨a,Y,e1,e2,e3,S⟩ gg;exact⟨a,Y,e1,e2,e3,S.call gg⟩
  . rintro i x hR F hx ⟨S,ha,rfl⟩;have aL:i<rs.length:=(by have:=(List.getElem?_eq_some_iff.1 hx).1;simpa using this);rw [Xk,Xc aL]at hx;cases hx;have a8:=bP _ (Xd aL);have tk:rs.take (i+1)=rs.take i++[rs[i]]:=Xg aL;have ba:rs[i]? =some rs[i]:=Xc aL;generalize rs[i]=r at a8 tk ba;obtain⟨rg,dc,ch,cj,bb⟩:=r;simp only []at a8;subst hX;refine ia (S.get m0) (by rw [Tryz.e15];rfl) rfl ?_;have S0:=S;replace S:=S.base;simp only [BZ,seval];refine fU S (i:=0) rfl rfl rfl rfl rfl ?_;clear S;intro h S;simp only [LC]at S;simp only [BZ,seval];have ck:Gr W h:=(S0.rebase S).gr;refine ag (a8 _ ck) ?_;intro h3 g3;replace S:=S.call g3;cases cj with
    | true=>
      simp only [BZ,seval];refine eg S (i:=0) rfl ?_;clear S;intro h S;simp only [LC]at S;refine .inl ⟨rfl,_,⟨S0.rebase S,?_,rfl⟩,S.fr,S.key_new⟩;intro q hq;rw [tk]at hq;rcases List.mem_append.1 hq with hq|hq
      . exact ha q hq
      . rw [List.mem_singleton.1 hq]
    | false=>
      have ec:cc=bb:=(by rw [<-e0];exact firstS_at ba ha Bool.false_ne_true);have Z:cc≠0:=(by rw [ec];have hm:=List.mem_of_getElem? ba;rw [<-cg]at hm;simp only [sfRs,Xm,Xi,or_false,Rs.mk.injEq]at hm;rcases hm with⟨_,_,_,_,rfl⟩|⟨_,_,_,_,rfl⟩|⟨_,_,_,_,rfl⟩|⟨_,_,_,_,rfl⟩|⟨_,_,_,_,rfl⟩<;>decide);have U:=S0.rebase S;have gU:=U.gr;have bc:=R8.gr gU;have bd:=R9.gr gU;have ks: ∀c∈keys [(lb,Ob.loop _),(H,Ob.dfr)] [],W.n<=c:=fun c p=>(U.key_own p).elim (fun h=>h) (fun h=>h.elim);have U2:=((U.mono (M':=(· ∈[C,B])) (fun _ h=>h.elim)).push (b:=B) (o:=.row _ 1) (.inr (by simp)) bc (fun h=>by have:=ks _ h;omega)).push (b:=C) (o:=.row _ 1) (.inr (by simp)) bd (fun h=>by
       rcases List.mem_cons.1 h with h|h
       . have ap:C≠B:=E;exact ap h
       . have:=ks _ h;omega)
      clear S U;have S:=U2;clear U2;rw [<-ec];simp only [BZ,seval];refine aC (S.store (i:=1) rfl Tryz.t43.2.1 (by intro x e;cases e) rfl rfl (lbt rfl) ono) ?_;clear S;rintro h ⟨S,_⟩;simp only [LC,ae,lay,Xn,Xo,seval]at S;simp only [BZ,seval];refine aC (aA S (i:=0) rfl Tryz.t44.2.2.1 bO (Xj (lbt rfl)) ono) ?_;clear S;rintro h ⟨S,_⟩;simp only [LC]at S;simp only [BZ];refine round_ret S (i:=2) rfl ?_;clear S;intro h S;simp only [LC]at S;exact .inr (.inl ⟨rfl,⟨rfl,_,Z,rfl,rfl,S.permL (Xw (l₁:=[_,_]) (l₂:=[_,_]))⟩,S.ok⟩)
 have bT: ∀(b:Nat),b∈keys [(lb,Ob.loop X),(H,.dfr)] []-> ¬(b<W.n/\b=b1):=fun b K h=>(S'.key_own K).elim (fun h1=>by omega) (fun h=>h.elim);refine eH (it lb _ _ (fun v h hz=>by cases hz.1) hJ h2 _ ?_ ⟨S',by simp,rfl⟩) fun o rc J y=>?_
 . exact⟨S'.ok,S'.fr.n,fun b K hd=>g2.get b K,bT,fun b K=>S'.key_lt K⟩
 . obtain ⟨_,⟨u,F',rfl,U,ha,rfl⟩|⟨u,rfl,hz,Y,Z,st,pe,U⟩|⟨w,rfl,hz,_⟩⟩:=y
   . rw [Xr,Xp]at ha;have be:cc=0:=(by rw [<-e0];exact CA ha);subst hX;refine⟨_,U.get m0,Xx,?_⟩;replace U:=U.dead;show Run _ _ _ _ _ _ _ _;have gU:=U.gr;have bc:=R8.gr gU;have bd:=R9.gr gU;have ks: ∀c∈keys [(H,Ob.dfr)] [],W.n<=c:=fun c p=>(U.key_own p).elim (fun h=>h) (fun h=>h.elim);have U2:=((U.mono (M':=(· ∈[C,B])) (fun _ h=>h.elim)).push (b:=B) (o:=.row _ 1) (.inr (by simp)) bc (fun h=>by have:=ks _ h;omega)).push (b:=C) (o:=.row _ 1) (.inr (by simp)) bd (fun h=>by
      rcases List.mem_cons.1 h with h|h
      . exact E h
      . have:=ks _ h;omega)
     have S:=U2.permL (L':=[(H,.dfr),(C,_),(B,_)]) (Xw (l₁:=[_]) (l₂:=[_,_]));clear U U2 R8 R9 hJ it bT;have a0: ∀{x:Hp},Mo (· ∈[C,B]) W x->Gr h0 x:=fun f=>(gA.fr.trans f (fun c p=>.inr (by simp only [Xm,Xi,or_false]at p;omega)):Mo NoM h0 _).gr;have a1: ∀{x:Hp} {b:Nat} {l:List Value},Mo (· ∈[C,B]) W x->Row W b l 1->b≠B/\b≠C->Row x b l 1:=fun {x b l} f r e=>f.has (b:=b) (o:=.row l 1) r (by simp [e.1,e.2]);have a2:=(R7.gr gU).load1 (o:=1) rfl;have a3:=(R7.gr gU).load1 (o:=2) rfl;by_cases bf:f=t
     . subst bf;simp only [BZ,a2,a3,seval];refine aC (S.store (i:=2) rfl Tryz.t43.2.1 (by intro x e;cases e) rfl rfl (lbt rfl) ono) ?_;clear S;rintro h3 ⟨S,_⟩;simp only [LC,ae,lay,Xn,Xo,seval]at S;simp only [BZ,seval];refine aC (aA S (i:=1) rfl Tryz.t44.2.2.1 bO (Xj (lbt rfl)) ono) ?_;clear S;rintro h4 ⟨S,_⟩;simp only [LC]at S;simp only [BZ];refine dJ (gu [H] _ (L:=[(C,_),(B,_)]) S.base fun h5 I=>?_);refine⟨rfl,(bZ (by decide) (by simp only [aD,ah,seval];exact bN Tryz.t43.1 Tryz.t43.2.1 (I.lds (b:=B) (o:=0) (n:=4) m1 (lbt rfl)))).2 ((bZ (by decide) (by simp only [aD,ah,seval];exact js Tryz.t44.2.1 (I.ld (b:=C) (o:=0) m0 rfl))).2 (cK.2 ?_))⟩;have gZ:Gr h0 h5:=(gA.fr.trans (S.rebase I).fr (fun c p=>.inr (by simp only [Xm,Xi,or_false]at p;omega)):Mo NoM h0 h5).gr;exact⟨gZ,_,_,_,_,_,rfl,fun x hx=>(by rcases hx with h|h|h<;>exact h.elim),.inl ⟨.inr trivial,by rw [V,be],rfl,rfl,rfl,rfl⟩⟩
     . obtain⟨w1,w2,w3,w4⟩:=Ch (V.trans be);have w1:=of_decide_eq_true w1;have w2:=of_decide_eq_true w2;have w3:=of_decide_eq_true w3;obtain⟨s,rfl⟩:=Xq w2.1;obtain⟨w,rfl⟩:=Xq w3.1;have hs:s<j.nodes:=(by omega);have hw:w<j.nodes:=(by omega);have bh:s≠w:=fun e=>bf (by rw [e]);unfold jD at w4;rw [Bool.and_eq_true]at w4;obtain⟨cl,cm,bm,bi,bk,cn⟩:=P w4.1;subst cm;simp only [BZ,a2,a3,bf,seval];refine ac qQ S ?_;clear S;intro h mm S dd;simp only [BZ,zo,seval];refine aC (S.mputI (i:=0) rfl Tryz.t121.1 Tryz.t3.1 rt _) ?_;clear S;rintro h3 ⟨bX,dx,c1,M1,S⟩;simp only [LC]at S;simp only [BZ,zo,seval];refine aC (S.mputI (i:=0) rfl Tryz.t121.1 Tryz.t3.1 M1 _) ?_;clear S bX;rintro h3 ⟨bX,cp,c2,M2,S⟩;simp only [LC]at S;have cr:h3.get mm=some (.map cp c2):=(S.own _ m0).2;have cs:=(a1 S.fr R7 n7).load1 (o:=0) rfl;have lk:=qR (x:=way) Tryz.t121.1 Tryz.t3.1 (z:=.nilFunc) (by kernel_rfl) cr M2;replace S:=S.drop1;have cv:=a0 S.fr;have dF:=S.fr.n;have de:H<h3.n:=S.key_lt (b:=H) (by simp [keys]);have bY:=S.ok;have cx:=a1 S.fr Rq nq;have M: ∃gq:FuncId,dE zO h3 121 (.map (some mm)) (.int .i64 way) false=some (.func (.func gq) #[ptrTo G] #[])/\Ret zO gq [ptrTo G] h3 fun r J=>Gr h3 J/\ ∃vB vP,r=.tuple #[vB,vP]/\av J 1 cq vB (if way=5 then iP j.nodes l.length R Q s w a else [])/\av J 1 (encI .i64) vP (sfP j.nodes l R Q ((iP j.nodes l.length R Q s w a).map fun(x:Nat)=>(x:Int)) way w)/\ ∀c,(aq vB c\/aq vP c)->h3.n<=c:=by
        rcases w1 with rfl|rfl
        . refine⟨_,lk,(B8 bY).mono fun r J ⟨e,g⟩=>⟨g,_,_,e,.inl ⟨rfl,rfl⟩,.inl ⟨rfl,rfl⟩,fun c p=>p.elim (fun h=>h.elim) (fun h=>h.elim)⟩⟩
        . have w5:=w4.2;simp only [ne_eq,not_true_eq_false,decide_false,Bool.false_or,decide_eq_true_eq]at w5;obtain⟨cz,cA⟩:=w5;subst cA;obtain⟨m',t',lR,lQ⟩: ∃m',TabAt h0 m' pt j.nodes l R Q/\(∀i,i<l.length->(R i).length=j.nodes)/\ ∀i,i<l.length->(Q i).length=j.nodes:=by
           rcases T with h|⟨_,_,rfl⟩
           . exact h
           . simp at cz
          exact⟨_,lk,CR bY cx (t'.gr cv) lR lQ hl (by omega) hs hw⟩
       obtain⟨gq,cI,M⟩:=M;simp only [BZ,cs,cI,seval];refine step_ret M ?_;rintro r h4 ⟨g4,vB,vP,rfl,sB,sP,b0⟩;replace S:=S.call g4;have dO:=g4.n;have cN:=S.fr.n;simp only [BZ,seval];have bn:=a0 S.fr;have bo:=S.ok;have br:=a1 S.fr R7 n7;have bs:=a1 S.fr R6 n6;have p7:=br.lt bo;have p6:=bs.lt bo;have a2:=br.load1 (o:=1) rfl;have a3:=br.load1 (o:=2) rfl;have cO:=bs.load1 (o:=0) rfl;have cT:=bs.load1 (o:=1) rfl;have S0:=S;clear S;have S:=Si bo;rename Hp=>hR;refine ar (kI (ord:=[19,0,1,2,3,4,5,6,7,8,9,10,11,12,13,14,15,16,17,18,20,21]) rfl rfl (by simp only [dW,nj,eU,List.getElem?_cons_zero,List.getElem?_cons_succ,List.map_toArray,XE,XI,cond_true,cond_false,seval];exact rfl)) (q:=1) (ps:=[(0,16),(5,13),(3,13),(0,13),(7,12),(5,12),(3,12),(0,12)]) (by kernel_rfl) ?_;simp only [BZ,cls,seval];refine dL ay S ?_;clear S;intro h N S cW bt;have cX:=(S.row (b:=N) m0).lt S.ok;have gB:=S.gr;have nB:=gB.n;simp only [BZ,cls,gB.load a2,gB.load a3,gB.load cO,gB.load cT,seval];refine bM (ss S.ok ((cl.gr bn).gr gB) hw) ?_;intro h g;have e1:=ao g (show b6<_ by omega);have e2:=ao g (show b7<_ by omega);have e3:=ao g cX;have d0:=g.n;replace S:=S.call g;simp only [BZ,cls,seval];refine cu (allowF_ok S.ok ((bm.gr bn).gr S.gr) (cn w hw) bi (by omega) bk) ?_;rintro r h ⟨ai,bl,rfl,RA,nA⟩;have e4:=ao ai (show b6<_ by omega);have e5:=ao ai (show b7<_ by omega);have e6:=ao ai (show N<_ by omega);have d3:=ai.n;replace S:=S.call ai;have cY:=slB_of RA;simp only [BZ,cls,sP.fl,seval];refine cu (ru S.ok al ((hn.gr bn).gr S.gr) hs hw cY (.inr (by simp)) (sP.gr S.gr) (by unfold sfP;split;exact .inr (by simp);exact .inl rfl)) ?_;rintro r h ⟨a4,v,O,rfl,⟨xA,xE,rfl,G1,G2,d1,d2⟩,he⟩;have e7:=ao a4 (show b6<_ by omega);have e8:=ao a4 (show b7<_ by omega);have e9:=ao a4 (show N<_ by omega);have bu:Fl xA:=G1.fl;have bv:Fl xE:=G2.fl;replace S:=S.call a4;simp only [BZ,cls,seval];refine df (S.store (i:=0) rfl Tryz.t99.2.1 (by intro x e;cases e) rfl (by simp only [ae,XP,XT,bu.2.1,bv.2.1,Xf];rfl) (lbt rfl) ono) ?_;have a6: ∀c,aq xA c\/aq xE c->c≠N:=fun c p e=>(by have h1:_<=c:=p.elim (fun h=>(d1 c h).1) (fun h=>d2 c h);omega);clear S;rintro a5 ⟨S,mo⟩;simp only [LC,ae,lay,Xn,Xo,seval]at S;simp only [BZ,cls,seval];refine⟨by simp only [aK,aS,aH,aU,aJ,ne_eq,not_false_eq_true,aW,aZ,aT,aM,bA,ca,aD,Xf,ah,gX,aF e1,aB e1,aF e2,aB e2,aF e3,aB e3,aF e4,aB e4,aF e5,aB e5,aF e6,aB e6,aF e7,aB e7,aF e8,aB e8,aF e9,aB e9,<-bt,seval],?_⟩;have bw:=S.row (b:=N) m0;have c0:av a5 1 cq xA O.arcs:=(G1.sl rfl dV (by decide)).mo mo (fun c p e=>a6 c (.inl p) e);have b2:av a5 4 gG xE O.ev:=(G2.sl rfl m9 (by decide)).mo mo (fun c p e=>a6 c (.inr p) e);have c3:=sB.gr S.gr;have j0:=bw.load1 (o:=0) rfl;have j1:=bw.load1 (o:=1) rfl;have j2:=bw.load1 (o:=2) rfl;have S1:=S0.call S.gr;have D:N≠B/\N≠C:=⟨fun e=>by omega,fun e=>by omega⟩;clear S;have S:=S1;clear S1;have d4:H<hR.n:=S0.key_lt (b:=H) (by simp [keys]);have d5:W.n<=hR.n:=S0.fr.n;have d7:=gA.n;have b3:=(he.resolve_left (fun h=>bh h.1)).2;have Z:=V.trans be;by_cases hd:O.dist<FAR
       . have bx: ¬(72057594037927936:Int)<=(O.dist:Int):=(by omega);simp only [BZ,j0,bx,seval];refine ar (ax rfl) (q:=0) (ps:=[(7,8)]) (by kernel_rfl) ?_;simp only [BZ,cls,j0,j1,j2,bu,sB.fl,seval];refine df (S.store (i:=2) rfl Tryz.t43.2.1 (by intro x e;cases e) rfl (by simp only [ae,XP,XT,bu.2.1,sB.fl.2.1,Xf];rfl) (lbt rfl) ono) ?_;clear S;rintro h5 ⟨S,bB⟩;simp only [LC,ae,lay,Xn,Xo,seval]at S;simp only [BZ,cls,seval];refine df (aA S (i:=1) rfl Tryz.t44.2.2.1 bv (Xj (lbt rfl)) ono) ?_;clear S;rintro h6 ⟨S,bL⟩;simp only [LC]at S;simp only [BZ,seval];refine⟨by simp only [aK,aS,aH,aU,aJ,ne_eq,not_false_eq_true,aW,aZ,aT,aM,bA,ca,aD,Xf,ah,gX,cS D.1,cS D.1.symm,cS D.2,cS D.2.symm,cS E,cS E.symm,seval],?_⟩;refine dJ (gu [H] _ (L:=[(C,_),(B,_)]) S.base fun h7 I=>?_);refine⟨rfl,(bZ (by decide) (by simp only [aD,ah,seval];exact bN Tryz.t43.1 Tryz.t43.2.1 (I.lds (b:=B) (o:=0) (n:=4) m1 (lbt rfl)))).2 ((bZ (by decide) (by simp only [aD,ah,seval];exact js Tryz.t44.2.1 (I.ld (b:=C) (o:=0) m0 rfl))).2 (cK.2 ?_))⟩;have gZ:=a0 (S.rebase I).fr;have bE: ∀{α:Type} {k:Nat} {ak:α->List Value} {u:Value} {xs:List α},av a5 k ak u xs->(∀c,aq u c->c≠B/\c≠C/\c≠H)->av h7 k ak u xs:=fun s K=>((s.mo bB (fun c p e=>(K c p).1 e)).mo bL (fun c p e=>(K c p).2.1 e)).mo I.fr (fun c p hm=>by
          have:=K c p;simp [keys]at hm;omega)
         have zE:=bE b2 (fun c p=>by have:=d2 c p;exact⟨by omega,by omega,by omega⟩);have zA:=bE c0 (fun c p=>by have:=(d1 c p).1;exact⟨by omega,by omega,by omega⟩);have zB:=bE c3 (fun c p=>by have:=b0 c (.inl p);have:=cN;exact⟨by omega,by omega,fun e=>by omega⟩);exact⟨gZ,_,_,_,_,_,rfl,fun x hx=>(by rcases hx with h|h|h;(have:=(d1 x h).1;omega);(have:=b0 x (.inl h);omega);(have:=d2 x h;omega)),.inr ⟨Z,s,w,O,rfl,rfl,bh,hs,hw,b3,zE,.inr ⟨hd,rfl,rfl,zA,zB⟩⟩⟩
       . have bx:(72057594037927936:Int)<=(O.dist:Int):=(by omega);simp only [BZ,j0,bx,seval];refine ar (ax rfl) (q:=0) (ps:=[(2,3)]) (by kernel_rfl) ?_;simp only [BZ,cls,j2,seval];refine df (S.store (i:=2) rfl Tryz.t43.2.1 (by intro x e;cases e) rfl (rfl) (lbt rfl) ono) ?_;clear S;rintro h5 ⟨S,bB⟩;simp only [LC,ae,lay,Xn,Xo,seval]at S;simp only [BZ,cls,seval];refine df (aA S (i:=1) rfl Tryz.t44.2.2.1 bv (Xj (lbt rfl)) ono) ?_;clear S;rintro h6 ⟨S,bL⟩;simp only [LC]at S;simp only [BZ,seval];refine⟨by simp only [aK,aS,aH,aU,aJ,ne_eq,not_false_eq_true,aW,aZ,aT,aM,bA,ca,aD,Xf,ah,gX,cS D.1,cS D.1.symm,cS D.2,cS D.2.symm,cS E,cS E.symm,seval],?_⟩;refine dJ (gu [H] _ (L:=[(C,_),(B,_)]) S.base fun h7 I=>?_);refine⟨rfl,(bZ (by decide) (by simp only [aD,ah,seval];exact bN Tryz.t43.1 Tryz.t43.2.1 (I.lds (b:=B) (o:=0) (n:=4) m1 (lbt rfl)))).2 ((bZ (by decide) (by simp only [aD,ah,seval];exact js Tryz.t44.2.1 (I.ld (b:=C) (o:=0) m0 rfl))).2 (cK.2 ?_))⟩;have gZ:=a0 (S.rebase I).fr;have bE: ∀{α:Type} {k:Nat} {ak:α->List Value} {u:Value} {xs:List α},av a5 k ak u xs->(∀c,aq u c->c≠B/\c≠C/\c≠H)->av h7 k ak u xs:=fun s K=>((s.mo bB (fun c p e=>(K c p).1 e)).mo bL (fun c p e=>(K c p).2.1 e)).mo I.fr (fun c p hm=>by
          have:=K c p;simp [keys]at hm;omega)
         have zE:=bE b2 (fun c p=>by have:=d2 c p;exact⟨by omega,by omega,by omega⟩);exact⟨gZ,_,_,_,_,_,rfl,fun x hx=>(by rcases hx with h|h|h;exact h.elim;exact h.elim;(have:=d2 x h;omega)),.inr ⟨Z,s,w,O,rfl,rfl,bh,hs,hw,b3,zE,.inl ⟨by omega,rfl,rfl,rfl,rfl⟩⟩⟩
   . refine⟨Y,U.get m0,by rw [st];decide,?_⟩;rw [pe];replace U:=U.dead;show Run _ _ _ _ _ _ _ _;simp only [BZ];refine dJ (gu [H] _ (L:=[(C,_),(B,_)]) U.base fun h5 I=>?_);refine⟨rfl,(bZ (by decide) (by simp only [aD,ah,seval];exact bN Tryz.t43.1 Tryz.t43.2.1 (I.lds (b:=B) (o:=0) (n:=4) m1 (lbt rfl)))).2 ((bZ (by decide) (by simp only [aD,ah,seval];exact js Tryz.t44.2.1 (I.ld (b:=C) (o:=0) m0 rfl))).2 (cK.2 ?_))⟩;have gZ:Gr h0 h5:=(gA.fr.trans (U.rebase I).fr (fun c p=>.inr (by simp only [Xm,Xi,or_false]at p;omega)):Mo NoM h0 h5).gr;exact⟨gZ,_,_,_,_,_,rfl,fun x hx=>(by rcases hx with h|h|h<;>exact h.elim),.inl ⟨.inl (by rw [V];exact Z),by rw [V],rfl,rfl,rfl,rfl⟩⟩
   . cases hz
end Go.Ab
end
section
namespace Go.Ab
section
variable{key:Nat->Int}{n m:Nat}
theorem gH{a:Type}{f:a->Int}{d:Int}: ∀(l:List a) (b:Int),l.foldl (fun b i=>max b (f i)) b<=d↔b<=d/\ ∀i∈l,f i<=d
 | [],b=>by simp| x::l,b=>by
   rw [XM,gH l];simp only [Xm,forall_eq_or_imp];constructor
   . rintro⟨e,c⟩;exact⟨by omega,by omega,c⟩
   . rintro⟨e,c,g⟩;exact⟨by omega,g⟩
end
end Go.Ab

end
section
namespace Go.Ab
open Go.Proofs
set_option maxRecDepth 10000
section
variable{γ:Gra}{l:List Int}
theorem C3(e: ∀{s:Nat},s<γ.nodes-> ∀v,IsD (seen γ.arcs Arc.t Arc.s) s v (dOf (seen γ.arcs Arc.t Arc.s) s v))(f: ∀{s:Nat},s<γ.nodes-> ∀v,IsD (seen γ.arcs Arc.s Arc.t) s v (dOf (seen γ.arcs Arc.s Arc.t) s v))(t:eJ γ.nodes l)
 {v u w d:Nat} (x:v<γ.nodes) (y:u<γ.nodes) (z:w<γ.nodes) (A:IsD (seen γ.arcs Arc.s Arc.t) v u d) (k:d<FAR) (i:Int):eo γ.nodes l.length (toR γ l) (frR γ l) i v w<=d+eo γ.nodes l.length (toR γ l) (frR γ l) i u w:=by
 unfold eo;by_cases a:0<=i/\i<(l.length:Int)
 . rw [if_pos ⟨by omega,by omega,a⟩,if_pos ⟨by omega,by omega,a⟩];obtain⟨i,rfl⟩:=Xq a.1;have a:i<l.length:=(by omega);have E:=t.2 i a;obtain⟨s,B⟩: ∃s:Nat,l.getD i 0=s:=⟨(l.getD i 0).toNat,by omega⟩;have b:s<γ.nodes:=(by omega);rw [nQ a x,nQ a z,nQ a y,nu a x,nu a z,nu a y,B,Xh];have F:=dR;have G:=(e b v).le;have H:=(e b w).le;have I:=(f b v).le;have J:=(f b w).le;have K:=(e b u).le;have L:=(f b u).le;have t1:=fun c=>tri_to (xR γ.arcs) A (e b v) (e b u) k c;have t2:=fun c=>tri_fr A (f b v) (f b u) k c;rw [mO (by omega) (by omega),mO (by omega) (by omega),mO (by omega) (by omega),mO (by omega) (by omega)];generalize dOf (seen γ.arcs Arc.t Arc.s) s v=m at*
   generalize dOf (seen γ.arcs Arc.t Arc.s) s u=g at*
   generalize dOf (seen γ.arcs Arc.t Arc.s) s w=n at*
   generalize dOf (seen γ.arcs Arc.s Arc.t) s v=j at*
   generalize dOf (seen γ.arcs Arc.s Arc.t) s u=o at*
   generalize dOf (seen γ.arcs Arc.s Arc.t) s w=p at*
   have C:g<FAR->m<=d+g:=fun h=>(t1 h).2;have q:g<FAR->m<FAR:=fun h=>(t1 h).1;have D:j<FAR->o<=j+d:=fun h=>(t2 h).2;have r:j<FAR->o<FAR:=fun h=>(t2 h).1;clear t1 t2 e f t;have M:(if n<72057594037927936 then(if m<72057594037927936 then max 0 ((m:Int)-n)else 72057594037927936)else 0)<=d+(if n<72057594037927936 then(if g<72057594037927936 then max 0 ((g:Int)-n)else 72057594037927936)else 0):=by
    by_cases c:g<FAR
    . have:=C c;have:=q c
      repeat' split
      all_goals omega
    . repeat' split
      all_goals omega
   have N:(if j<72057594037927936 then(if p<72057594037927936 then max 0 ((p:Int)-j)else 72057594037927936)else 0)<=d+(if o<72057594037927936 then(if p<72057594037927936 then max 0 ((p:Int)-o)else 72057594037927936)else 0):=by
    by_cases c:j<FAR
    . have:=D c;have:=r c
      repeat' split
      all_goals omega
    . repeat' split
      all_goals omega
   omega
 . rw [if_neg (fun h=>a h.2.2),if_neg (fun h=>a h.2.2)];omega
theorem su(b: ∀{s:Nat},s<γ.nodes-> ∀v,IsD (seen γ.arcs Arc.t Arc.s) s v (dOf (seen γ.arcs Arc.t Arc.s) s v))(c: ∀{s:Nat},s<γ.nodes-> ∀v,IsD (seen γ.arcs Arc.s Arc.t) s v (dOf (seen γ.arcs Arc.s Arc.t) s v))(e:eJ γ.nodes l)
 {v u w d:Nat} (g:v<γ.nodes) (j:u<γ.nodes) (k:w<γ.nodes) (m:IsD (seen γ.arcs Arc.s Arc.t) v u d) (a:d<FAR) (act:List Int):cR γ.nodes l.length (toR γ l) (frR γ l) v w act<=d+cR γ.nodes l.length (toR γ l) (frR γ l) u w act:=by
 have h:=(gH (f:=fun i=>eo γ.nodes l.length (toR γ l) (frR γ l) i u w) act 0).1 (XA _);refine(gH (f:=fun i=>eo γ.nodes l.length (toR γ l) (frR γ l) i v w) act 0).2 ⟨?_,fun i n=>?_⟩
 . have:=h.1;unfold cR;omega
 . have o:=C3 b c e g j k m a i;have p:=h.2 i n;unfold cR;omega
theorem eA{N n:Nat}{R Q:Nat->List Int}{v w:Int}{act:List Int}:0<=cR N n R Q v w act:=((gH (f:=fun i=>eo N n R Q i v w) act 0).1 (XA _)).1
theorem jL{N v:Nat}{f:Nat->Int}(a:v<N)(h0:0<=f v):piF ((zM N).map f) v=f v:=by
 have b:=dR;unfold piF;rw [if_neg (by intro h;have:=congrArg List.length h;simp at this;omega)];have:((zM N).map f).getD v 0=f v:=by simp [Xa,a]
 rw [this];omega
theorem xu(k: ∀{s:Nat},s<γ.nodes-> ∀v,IsD (seen γ.arcs Arc.t Arc.s) s v (dOf (seen γ.arcs Arc.t Arc.s) s v))(f: ∀{s:Nat},s<γ.nodes-> ∀v,IsD (seen γ.arcs Arc.s Arc.t) s v (dOf (seen γ.arcs Arc.s Arc.t) s v))(m:eJ γ.nodes l)(b:Good γ)
 {w:Nat} (n:w<γ.nodes) (act:List Int) (al:Nat->Bool):Feas γ.arcs al (piF ((zM γ.nodes).map fun(v:Nat)=>cR γ.nodes l.length (toR γ l) (frR γ l) v w act)):=by
 intro i g _;have c:γ.arcs.getD i default∈γ.arcs:=by rw [Xa,Xc g];exact Xd g
 generalize γ.arcs.getD i default=a at c;obtain⟨d,h,o⟩:=b.arcs a c;rw [jL d eA,jL h eA];have j:=f d a.t;have e:Wk (seen γ.arcs Arc.s Arc.t) a.s a.t (0+a.w):=by rw [eS];exact .snoc c .nil
 have p:=j.wk e;have:=su k f m d h n j (by have:=dR;omega) act;omega
end
end Go.Ab

end
section
namespace Go.Ab
open Go.Proofs
set_option maxRecDepth 10000
theorem Cf{N n:Nat}{R Q:Nat->List Int}{i v:Int}:eo N n R Q i v v=0:=by
 have: ∀x:Int,nC x x=0:=fun x=>by unfold nC wy;repeat' split;all_goals omega
 unfold eo
 split
 . rw [this,this];rfl
 . rfl
theorem qm{N n:Nat}{R Q:Nat->List Int}{v:Int}(act:List Int):cR N n R Q v v act=0:=by refine Int.le_antisymm ((gH (f:=fun i=>eo N n R Q i v v) act 0).2 ⟨XA _,fun i _=>?_⟩) eA;show eo N n R Q i v v<=0;rw [Cf];exact XA _
theorem Ah{A:List Arc}{s to:Nat}{al:Nat->Bool}{pi:Nat->Int}(b: ∀i,al i=true)(d: ∀v w,Wk A v to w->pi v<(FAR:Int)){v w:Nat}(h:Wk A s v w):(∃x,Wk A v to x)->Wk (gY A al pi) s v w:=by
 induction h with
 |nil=>intro _;exact .nil| @snoc w a f _ l=>
   rintro⟨x,g⟩;have j:Wk A a.s to (0+a.w+x):=(Wk.snoc f .nil).trans g;refine .snoc (jq.2 ?_) (l ⟨_,j⟩);obtain⟨i,k,e⟩:=Xt f;have c:A.getD i default=a:=(by rw [Xa,Xc k,e];rfl);exact⟨i,k,⟨b i,by rw [c];exact d _ _ j,by rw [c];exact d _ _ g⟩,c⟩
theorem oK{A:List Arc}{al:Nat->Bool}{pi:Nat->Int}{a:Arc}(h:a∈gY A al pi):a∈A:=by obtain⟨i,b,_,rfl⟩:=jq.1 h;rw [Xa,Xc b];exact Xd b
theorem isD_hArcs{A:List Arc}{s to x:Nat}{al:Nat->Bool}{pi:Nat->Int}(d: ∀i,al i=true)(f: ∀v w,Wk A v to w->pi v<(FAR:Int))(h:IsD (gY A al pi) s to x):IsD A s to x:=by
 rcases h with⟨a,b,c⟩|⟨a,b⟩
 . exact .inl ⟨a,b.mono (fun _=>oK),fun w e=>c w (Ah d f e ⟨0,.nil⟩)⟩
 . exact .inr ⟨a,fun w e=>b w (Ah d f e ⟨0,.nil⟩)⟩
theorem pB{A:List Arc}{al:Nat->Bool}{pi:Nat->Int}{to:Nat}{σ:SS}{r:Fd}(h:Ends A al pi to σ r)(h0: ∀v,σ.K v=none):r=⟨FAR,[],σ.ev⟩:=h.uniq (.none h0)
theorem zj{A:List Arc}{N v u x:Nat}(b: ∀a∈A,a.s<N)(h:Wk A v u x):v=u\/v<N:=by
 induction h with
 |nil=>exact .inl rfl| snoc c _ d=>
   rcases d with e|h
   . exact .inr (by rw [e];exact b _ c)
   . exact .inr h
section
variable{γ:Gra}{l:List Int}
theorem sc(q: ∀{s:Nat},s<γ.nodes-> ∀v,IsD (seen γ.arcs Arc.t Arc.s) s v (dOf (seen γ.arcs Arc.t Arc.s) s v))(m: ∀{s:Nat},s<γ.nodes-> ∀v,IsD (seen γ.arcs Arc.s Arc.t) s v (dOf (seen γ.arcs Arc.s Arc.t) s v))(r:eJ γ.nodes l)(b:Good γ)
 {s w:Nat} (t:s<γ.nodes) (g:w<γ.nodes) (A:s≠w) {act:List Int} {e:Fd} (j:Ends γ.arcs (alF []) (piF ((zM γ.nodes).map fun(v:Nat)=>cR γ.nodes l.length (toR γ l) (frR γ l) v w act)) w (dg (piF ((zM γ.nodes).map fun(v:Nat)=>cR γ.nodes l.length (toR γ l) (frR γ l) v w act)) s) e):
 IsD γ.arcs s w e.dist/\(e.dist<FAR->my γ.arcs s e.arcs w e.dist):=by
 have u: ∀a∈γ.arcs,a.t<γ.nodes/\a.w<=du:=fun a k=>⟨(b.arcs a k).2.1,(b.arcs a k).2.2⟩;have y:=xu q m r b g act (alF []);have n: ∀i,alF [] i=true:=fun _=>rfl;have B:=dR;have o: ∀v,v<γ.nodes-> ∀x,Wk γ.arcs v w x->cR γ.nodes l.length (toR γ l) (frR γ l) v w act<(FAR:Int):=fun v f x c=>by have z:=m f w;have C:=z.wk (by rw [eS];exact c);have:=su q m r f g g z C.1 act;rw [qm]at this;omega
 have D: ∀v x,Wk γ.arcs v w x->v=w\/v<γ.nodes:=fun v x c=>zj (fun a k=>(b.arcs a k).1) c;have p: ∀v x,Wk γ.arcs v w x->piF ((zM γ.nodes).map fun(v:Nat)=>cR γ.nodes l.length (toR γ l) (frR γ l) v w act) v<(FAR:Int):=fun v x c=>by have f:v<γ.nodes:=(D v x c).elim (fun h=>by rw [h];exact g) (fun h=>h);rw [jL f eA];exact o v f x c
 generalize piF ((zM γ.nodes).map fun(v:Nat)=>cR γ.nodes l.length (toR γ l) (frR γ l) v w act)=pi at j y p;refine⟨?_,yo (N:=γ.nodes) u j (lN t)⟩;by_cases d:pi s<(FAR:Int)
 . refine isD_hArcs n p (AH u b.n2 y j (lN t) (tN d) ?_);unfold dg dz
   split<;>exact fun h=>by cases h
 . have E: ∀v,(dg pi s).K v=none:=fun v=>by
    unfold dg dz
    split
    . rfl
    . rename_i F;simp only [not_or]at F;exact absurd (by omega) d
   rw [pB j E];exact .inr ⟨rfl,fun x c=>d (p s x c)⟩
end
end Go.Ab

end
section
namespace Go.Ab
open Go.Proofs
set_option maxRecDepth 10000
def oh(l:List Ev):List Nat:=l.filterMap fun e=>if e.kind=0 then some e.id else none
def pC(A:List Arc)(a:Nat->Nat->Prop)(l:List Ev):Prop:= ∀(i:Nat) (h:i<l.length),(l[i].kind=1/\l[i].id<A.length/\(A.getD l[i].id default).s∈oh (l.take i))\/(l[i].kind=0/\l[i].id∉oh (l.take i)/\a l[i].id l[i].lab)
theorem pC.snoc{A:List Arc}{a:Nat->Nat->Prop}{l:List Ev}{e:Ev}(h:pC A a l)(c:(e.kind=1/\e.id<A.length/\(A.getD e.id default).s∈oh l)\/(e.kind=0/\e.id∉oh l/\a e.id e.lab)):pC A a (l++[e]):=by
 intro i d;by_cases b:i<l.length
 . rw [List.getElem_append_left b,List.take_append_of_le_length (by omega)];exact h i b
 grind
theorem vp(l:List Ev)(e:Ev):oh (l++[e])=oh l++if e.kind=0 then [e.id]else []:=by grind[oh]
theorem gm{pi:Nat->Int}{σ:SS}{v lab:Nat}{p:List Nat}:(dz pi σ v lab p).ev=σ.ev/\(dz pi σ v lab p).O=σ.O:=by unfold dz;grind
section
variable{A:List Arc}{N s:Nat}{al:Nat->Bool}{pi:Nat->Int}{ok:Nat->Nat->Prop}
def EvI(A:List Arc)(ok:Nat->Nat->Prop)(σ:SS):Prop:=pC A ok σ.ev/\oh σ.ev=σ.O
theorem EvI.scan1{σ:SS}(h:EvI A ok σ){v a:Nat}(c:v∈σ.O)(b:a<A.length)(d:(A.getD a default).s=v):EvI A ok (scan1 A al pi v σ a)/\(scan1 A al pi v σ a).O=σ.O:=by
 unfold Ab.scan1
 split
 . refine⟨⟨?_,?_⟩,gm.2⟩
   . rw [gm.1];exact h.1.snoc (.inl ⟨rfl,b,by rw [h.2];grind⟩)
   . rw [gm.1,gm.2];show oh (σ.ev++[_])=σ.O;rw [vp,h.2];simp
 grind
theorem EvI.scanL{v:Nat}: ∀(l:List Nat) {σ:SS},EvI A ok σ->v∈σ.O->(∀a∈l,a<A.length/\(A.getD a default).s=v)->EvI A ok (l.foldl (Ab.scan1 A al pi v) σ)
 | [],_,h,_,_=>h| a::l,σ,h,d,c=>by have e:=h.scan1 (al:=al) (pi:=pi) d (c a List.mem_cons_self).1 (c a List.mem_cons_self).2;exact EvI.scanL l e.1 (by rw [e.2];exact d) (fun b f=>c b (List.mem_cons_of_mem _ f))
theorem EvI.close{σ:SS}(h:EvI A ok σ){v:Nat}(a:v∉σ.O)(b:ok v (σ.L v)):EvI A ok (dC σ v):=by refine⟨h.1.snoc (.inr ⟨rfl,by rw [h.2];exact a,b⟩),?_⟩;show oh (σ.ev++[_])=σ.O++[v];rw [vp,h.2];simp
theorem yg{to:Nat}{σ:SS}{r:Fd}(i: ∀a∈A,a.t<N/\a.w<=du)(j:Feas A al pi)(c:Ends A al pi to σ r)
 (H: ∀{d:SS} {v:Nat} {k:Int},Sv A N s al pi d->Fe A s al pi d (fun _=>False)->to∉d.O->Pops d.K v k->ok v (d.L v)):
 Sv A N s al pi σ->Fe A s al pi σ (fun _=>False)->to∉σ.O->EvI A ok σ->pC A ok r.ev:=by
 induction c with
 |none q=>intro _ _ _ h;exact h.1| @hit σ k b=>intro h f e c;exact(c.close (h.op _ _ b.1).2.1 (H h f e b)).1| @step σ v k r b l _ m=>
   intro h f e c;obtain⟨n,o⟩:=h.next i b.1
   refine m n (f.next h j b) ?_ ?_
   . rw [o.O];intro g;rcases List.mem_append.1 g with g|g
     . exact e g
     grind
   . exact EvI.scanL _ (c.close (h.op _ _ b.1).2.1 (H h f e b)) (List.mem_append_right _ (List.mem_singleton.2 rfl)) (fun a p=>gC.1 p)
theorem yY:EvI A ok (dg pi s):=by
 unfold dg;refine⟨?_,?_⟩
 . rw [gm.1];intro i a;cases a
 . rw [gm.1,gm.2];rfl
theorem wk_up(b: ∀i,al i=true)(d: ∀a∈A,pi a.t<(FAR:Int)->pi a.s<(FAR:Int)){v w:Nat}(h:Wk A s v w):pi v<(FAR:Int)->Wk (gY A al pi) s v w:=by
 induction h with
 |nil=>intro _;exact .nil| @snoc w a c _ f=>
   intro g;have j:=d a c g;refine .snoc (jq.2 ?_) (f j);obtain⟨i,k,e⟩:=Xt c;have l:A.getD i default=a:=(by grind);exact⟨i,k,⟨b i,by grind,by grind⟩,l⟩
end
section
variable{γ:Gra}{l:List Int}
theorem bound_far(c: ∀{s:Nat},s<γ.nodes-> ∀v,IsD (seen γ.arcs Arc.t Arc.s) s v (dOf (seen γ.arcs Arc.t Arc.s) s v))(e: ∀{s:Nat},s<γ.nodes-> ∀v,IsD (seen γ.arcs Arc.s Arc.t) s v (dOf (seen γ.arcs Arc.s Arc.t) s v))(p:eJ γ.nodes l)
 {v u w d:Nat} (k:v<γ.nodes) (m:u<γ.nodes) (g:w<γ.nodes) (n:IsD (seen γ.arcs Arc.s Arc.t) v u d) (f:d<FAR) (i:Int) (h:eo γ.nodes l.length (toR γ l) (frR γ l) i u w<(FAR:Int)):eo γ.nodes l.length (toR γ l) (frR γ l) i v w<(FAR:Int):=by
 have q:=dR;unfold eo at*
 by_cases a:0<=i/\i<(l.length:Int)
 . rw [if_pos ⟨by omega,by omega,a⟩]at h⊢;obtain⟨i,rfl⟩:=Xq a.1;have a:i<l.length:=(by omega);have r:=p.2 i a;obtain⟨s,o⟩: ∃s:Nat,l.getD i 0=s:=⟨(l.getD i 0).toNat,by omega⟩;have b:s<γ.nodes:=(by omega);rw [nQ a g,nQ a m,nu a g,nu a m,o,Xh]at h;rw [nQ a k,nQ a g,nu a k,nu a g,o,Xh];have t:=(c b v).le;have x:=(c b w).le;have y:=(e b v).le;have z:=(e b w).le;have A:=(c b u).le;have B:=(e b u).le;have t1:=fun j=>tri_to (xR γ.arcs) n (c b v) (c b u) f j;have t2:=fun j=>tri_fr n (e b v) (e b u) f j;rw [mO (by omega) (by omega),mO (by omega) (by omega)]at h⊢;omega
 omega
theorem best_far(b: ∀{s:Nat},s<γ.nodes-> ∀v,IsD (seen γ.arcs Arc.t Arc.s) s v (dOf (seen γ.arcs Arc.t Arc.s) s v))(c: ∀{s:Nat},s<γ.nodes-> ∀v,IsD (seen γ.arcs Arc.s Arc.t) s v (dOf (seen γ.arcs Arc.s Arc.t) s v))(e:eJ γ.nodes l)
 {v u w d:Nat} (g:v<γ.nodes) (j:u<γ.nodes) (k:w<γ.nodes) (m:IsD (seen γ.arcs Arc.s Arc.t) v u d) (a:d<FAR) (act:List Int) (n:cR γ.nodes l.length (toR γ l) (frR γ l) u w act<(FAR:Int)):cR γ.nodes l.length (toR γ l) (frR γ l) v w act<(FAR:Int):=by
 have p:=dR;have h:=(gH (f:=fun i=>eo γ.nodes l.length (toR γ l) (frR γ l) i u w) (d:=(FAR:Int)-1) act 0).1 (Int.le_sub_one_of_lt n);refine XO ((gH (f:=fun i=>eo γ.nodes l.length (toR γ l) (frR γ l) i v w) (d:=(FAR:Int)-1) act 0).2 ⟨h.1,fun i o=>?_⟩);have q:=bound_far b c e g j k m a i (XO (h.2 i o));omega
theorem AR(q: ∀{s:Nat},s<γ.nodes-> ∀v,IsD (seen γ.arcs Arc.t Arc.s) s v (dOf (seen γ.arcs Arc.t Arc.s) s v))(n: ∀{s:Nat},s<γ.nodes-> ∀v,IsD (seen γ.arcs Arc.s Arc.t) s v (dOf (seen γ.arcs Arc.s Arc.t) s v))(r:eJ γ.nodes l)(b:Good γ)
 {s w:Nat} (D:s<γ.nodes) (o:w<γ.nodes) (t:s≠w) {act:List Int} {d:Fd} (p:Ends γ.arcs (alF []) (piF ((zM γ.nodes).map fun(v:Nat)=>cR γ.nodes l.length (toR γ l) (frR γ l) v w act)) w (dg (piF ((zM γ.nodes).map fun(v:Nat)=>cR γ.nodes l.length (toR γ l) (frR γ l) v w act)) s) d) (e:d.dist<FAR):
 pC γ.arcs (fun v x=>v<γ.nodes/\IsD γ.arcs s v x/\(x:Int)+cR γ.nodes l.length (toR γ l) (frR γ l) v w act<=d.dist) d.ev:=by
 have H: ∀a∈γ.arcs,a.t<γ.nodes/\a.w<=du:=fun a g=>⟨(b.arcs a g).2.1,(b.arcs a g).2.2⟩;have u:=xu q n r b o act (alF []);have j: ∀i,alF [] i=true:=fun _=>rfl;have I:=dR;obtain⟨J,_⟩:=sc q n r b D o t p;have c: ∀a∈γ.arcs,piF ((zM γ.nodes).map fun(v:Nat)=>cR γ.nodes l.length (toR γ l) (frR γ l) v w act) a.t<(FAR:Int)->piF ((zM γ.nodes).map fun(v:Nat)=>cR γ.nodes l.length (toR γ l) (frR γ l) v w act) a.s<(FAR:Int):=fun a g h=>by
  obtain⟨m,y,K⟩:=b.arcs a g;rw [jL y eA]at h;rw [jL m eA];have E:=n m a.t;have z:Wk (seen γ.arcs Arc.s Arc.t) a.s a.t (0+a.w):=by rw [eS];exact .snoc g .nil
  exact best_far q n r m y o E (E.wk z).1 act h
 have A:piF ((zM γ.nodes).map fun(v:Nat)=>cR γ.nodes l.length (toR γ l) (frR γ l) v w act) w=0:=by rw [jL o eA,qm]
 have F: ∀v,v<γ.nodes->piF ((zM γ.nodes).map fun(v:Nat)=>cR γ.nodes l.length (toR γ l) (frR γ l) v w act) v=cR γ.nodes l.length (toR γ l) (frR γ l) v w act:=fun v L=>jL L eA;generalize M:piF ((zM γ.nodes).map fun(v:Nat)=>cR γ.nodes l.length (toR γ l) (frR γ l) v w act)=pi at p u c A F;have O:=wk_up j c (J.far e) (by rw [A];omega);by_cases B:pi s<(FAR:Int)
 . refine yg (N:=γ.nodes) H u p (fun {W v k} h f P C=>?_) (lN D) (tN B) ?_ yY
   . obtain⟨G,X,Q,Y⟩:=h.op v k C.1;obtain⟨R,S⟩:=f.popped h u C;have m:=h.wk _ (Xs _) (v:=v) (.inr (by rw [C.1];nofun));have y:=(h.bd v).1;have K:=Nat.mul_le_mul_right du (Xl h.len b.n2);have:=nH;have T:=S w d.dist P O;rw [A,F v G]at T;refine⟨G,.inl ⟨by omega,m.mono (fun _=>oK),fun x U=>R x (wk_up j c U Q)⟩,by omega⟩
   grind[dg,gm]
 . have V: ∀v,(dg pi s).K v=none:=fun v=>(by simp_all[dg,dz,not_or,absurd]);rw [pB p V]at e;grind
end
end Go.Ab

end
section
namespace Go.Ab
open Go.Proofs
set_option maxRecDepth 10000
section
variable{γ:Gra}{s w:Nat}{l:List Int}
theorem flag_on(j:Good γ){to:Nat}{c:Nat->Nat}{als:List Bool}(f: ∀i,i<γ.arcs.length->(alF als i=true↔i∈dD γ c (c to))): ∀a,a∈gY γ.arcs (alF als) (piF [])↔a∈γ.arcs/\onF γ.arcs (fun v b=>dOf (seen γ.arcs Arc.t Arc.s) b v) c (c to) a:=by
 intro a;have n:=dR;rw [jq];have q: ∀i,i<γ.arcs.length->(i∈dD γ c (c to)↔onF γ.arcs (fun v b=>dOf (seen γ.arcs Arc.t Arc.s) b v) c (c to) (γ.arcs.getD i default)):=fun i d=>by
  rw [Cp d];unfold insB onF jd;rw [decide_eq_true_iff];refine or_congr Iff.rfl ⟨?_,?_⟩
  . rintro⟨b,g,h⟩;obtain⟨_,g⟩:=List.mem_filter.1 g;exact⟨b,AT.1 g,of_decide_eq_true h⟩
  . rintro⟨b,g,h⟩;obtain⟨o,e,m,rfl,p⟩:=g;exact⟨e.t,List.mem_filter.2 ⟨List.mem_range.2 (j.arcs e m).2.1,AT.2 ⟨o,e,m,rfl,p⟩⟩,decide_eq_true h⟩
 constructor
 . rintro⟨i,d,k,rfl⟩;exact⟨by grind,(q i d).1 ((f i d).1 k.1)⟩
 . rintro⟨r,t⟩;obtain⟨i,d,rfl⟩:=List.mem_iff_getElem.1 r;have e:γ.arcs.getD i default=γ.arcs[i]:=(by grind);refine⟨i,d,⟨(f i d).2 ((q i d).2 (by rw [e];exact t)),?_,?_⟩,e⟩<;>rw [show piF []=fun _=>(0:Int)from funext fun v=>if_pos rfl]<;>show(0:Int)<_<;>omega
theorem wk_hArcsO{A c:List Arc}{to:Nat}{al:Nat->Bool}{pi:Nat->Int}(d: ∀a∈c,a∈A/\ ∃i,i<A.length/\al i=true/\A.getD i default=a)(o: ∀v x,Wk A v to x->pi v<(FAR:Int)){v x:Nat}(h:Wk c s v x):(∃y,Wk A v to y)->Wk (gY A al pi) s v x:=by
 induction h with
 |nil=>intro _;exact .nil| @snoc z a f _ g=>
   rintro⟨y,j⟩;obtain⟨b,i,k,m,e⟩:=d a f;have n:Wk A a.s to (0+a.w+y):=(Wk.snoc b .nil).trans j;exact .snoc (jq.2 ⟨i,k,⟨m,by grind,by grind⟩,e⟩) (g ⟨_,n⟩)
theorem CH (E: ∀{s:Nat},s<γ.nodes-> ∀v,IsD (seen γ.arcs Arc.t Arc.s) s v (dOf (seen γ.arcs Arc.t Arc.s) s v)) (F: ∀{s:Nat},s<γ.nodes-> ∀v,IsD (seen γ.arcs Arc.s Arc.t) s v (dOf (seen γ.arcs Arc.s Arc.t) s v)) (f:Good γ) (r:s<γ.nodes) (G:w<γ.nodes) {c:Nat->Nat} {als:List Bool} (t: ∀i,i<γ.arcs.length->(alF als i=true↔i∈dD γ c (c w)))
 {pi:Nat->Int} (H:Feas γ.arcs (alF als) pi) (n: ∀v x,Wk γ.arcs v w x->pi v<(FAR:Int)) {j:Fd} (u:Ends γ.arcs (alF als) pi w (dg pi s) j):
 IsD γ.arcs s w j.dist/\(j.dist<FAR->my γ.arcs s j.arcs w j.dist/\Wk (gY γ.arcs (alF als) pi) s w j.dist):=by
 have C: ∀a∈γ.arcs,a.t<γ.nodes/\a.w<=du:=fun a k=>⟨(f.arcs a k).2.1,(f.arcs a k).2.2⟩;have I:=dR;have y:=flag_on f t;have m:=F r w;rw [eS]at m;have J:=CM (A:=γ.arcs) (N:=γ.nodes) (fun a k=>⟨(f.arcs a k).1,(f.arcs a k).2.1⟩) (d:=fun v b=>dOf (seen γ.arcs Arc.t Arc.s) b v) (fun v b U K=>isD_back (E K v)) y r G rfl m;have V:=yo (N:=γ.nodes) C u (lN r);have L: ∀a∈gY γ.arcs (alF als) (piF []),a∈γ.arcs/\ ∃i,i<γ.arcs.length/\alF als i=true/\γ.arcs.getD i default=a:=fun a k=>by obtain⟨i,M,z,e⟩:=jq.1 k;exact⟨oK k,i,M,z.1,e⟩
 have B: ¬pi s<(FAR:Int)->j.dist=FAR:=fun g=>by
  have O: ∀v,(dg pi s).K v=none:=fun v=>by simp_all[dg,dz,not_or,absurd]
  rw [pB u O]
 have o:pi s<(FAR:Int)->IsD (gY γ.arcs (alF als) pi) s w j.dist:=fun g=>AH C f.n2 H u (lN r) (tN g) (by grind[dg,gm]);by_cases D:dOf γ.arcs s w<FAR
 . have P:=m.far D;have Q:=J.far D;have p:=o (n s _ P);have R:=wk_hArcsO L n Q ⟨0,.nil⟩;have q:=p.wk R;have S:=(p.far q.1).mono (fun _=>oK);have T:=m.wk S;grind
 . have e:j.dist=FAR:=by
    by_cases g:pi s<(FAR:Int)
    . have p:=o g;by_cases h:j.dist<FAR
      . have T:=m.wk ((p.far h).mono (fun _=>oK));omega
      . have:=p.le;omega
    . exact B g
   have W:dOf γ.arcs s w=FAR:=(by have:=m.le;omega);grind
theorem Cu(b:Good γ)(n:s<γ.nodes){als:List Bool}{pi:Nat->Int}(e:Feas γ.arcs (alF als) pi)(q:pi w=0){c:Fd}(g:Ends γ.arcs (alF als) pi w (dg pi s) c)(r:Wk (gY γ.arcs (alF als) pi) s w c.dist):
 pC γ.arcs (fun v x=>v<γ.nodes/\(x:Int)+pi v<=c.dist) c.ev:=by
 have o: ∀a∈γ.arcs,a.t<γ.nodes/\a.w<=du:=fun a j=>⟨(b.arcs a j).2.1,(b.arcs a j).2.2⟩;by_cases d:pi s<(FAR:Int)
 . refine yg (N:=γ.nodes) o e g (fun {t v k} h f u m=>?_) (lN n) (tN d) ?_ yY
   . obtain⟨y,_,_,z⟩:=h.op v k m.1;obtain⟨_,A⟩:=f.popped h e m;grind
   grind[dg,gm]
 . have p: ∀v,(dg pi s).K v=none:=fun v=>(by simp_all[dg,dz,not_or,absurd]);rw [pB g p];have:(dg pi s).ev=[]:=(by unfold dg;rw [gm.1]);intro i B;grind
end
end Go.Ab

end
section
namespace Go.Ab
open Go.Proofs
set_option maxRecDepth 10000
theorem xG{a:Gra}{l:List Int}{i:Nat}:(toR a l i).length=a.nodes:=by unfold toR;exact ry _ _ _
theorem xk{a:Gra}{l:List Int}{i:Nat}:(frR a l i).length=a.nodes:=by unfold frR;exact ry _ _ _
theorem sfP_feas{b:Gra}{l act:List Int}{R Q:Nat->List Int}{way:Int}(g: ∀{s:Nat},s<b.nodes-> ∀v,IsD (seen b.arcs Arc.t Arc.s) s v (dOf (seen b.arcs Arc.t Arc.s) s v))(f: ∀{s:Nat},s<b.nodes-> ∀v,IsD (seen b.arcs Arc.s Arc.t) s v (dOf (seen b.arcs Arc.s Arc.t) s v))(n:way=5->eJ b.nodes l/\R=toR b l/\Q=frR b l)(c:Good b){w:Nat}(d:w<b.nodes)(al:Nat->Bool):
 Feas b.arcs al (piF (sfP b.nodes l R Q act way w))/\(∀v x,Wk b.arcs v w x->piF (sfP b.nodes l R Q act way w) v<(FAR:Int))/\piF (sfP b.nodes l R Q act way w) w=0/\ ∀v,v<b.nodes->way=5->piF (sfP b.nodes l R Q act way w) v=cR b.nodes l.length (toR b l) (frR b l) v w act:=by
 have o:=dR;by_cases h:way=5
 . obtain⟨j,rfl,rfl⟩:=n h;unfold sfP;rw [if_pos h];refine⟨xu g f j c d act al,fun v x k=>?_,by rw [jL d eA,qm],fun v e _=>jL e eA⟩;have e:v<b.nodes:=(zj (fun a p=>(c.arcs a p).1) k).elim (fun h=>by rw [h];exact d) (fun h=>h);rw [jL e eA];have m:=f e w;have q:=m.wk (by rw [eS];exact k);have:=su g f j e d d m q.1 act;rw [qm]at this;omega
 . unfold sfP;rw [if_neg h];have r:piF []=fun _=>(0:Int):=funext fun v=>if_pos rfl;rw [r];exact⟨fun i u _=>(by show(0:Int)<=_+0;omega),fun v x _=>(by show(0:Int)<_;omega),rfl,fun v _ t=>absurd t h⟩
theorem Cz{h0:Hp}{d:Gra}{j l n e k o f a:Nat}{m:List Int}{p q:Nat->Nat}(b:Good d)(r:aX h0 l (ptrTo j) d)(c:gc h0 n (ptrTo e) d.nodes m p)(i:fS m+1=((f:Nat):Int))(s:eX h0 k o f d.arcs.length a q): ∀h,Gr h0 h->aN zO 44 [ptrTo j,ptrTo e,ptrTo k] h (.bool true):=by intro h g;have u:=b.n2;have t:=c.len;have:=uu g.ok (r.gr g) (.inr ⟨⟨_,c.at0.gr g⟩,i.symm⟩:kP h (ptrTo e) m (f:Int)) (s.gr g).bits b.n1 (by omega);rw [t]at this;simpa using this
theorem Bx {h0:Hp} (M:h0.t.Sized h0.n) {bp nb N:Nat} {b:Gra} (j:Good b) (H:aX h0 nb (ptrTo bp) b) {pt:Value} {l:List Int} {R Q:Nat->List Int} (T:TabQ h0 pt N l R Q) (hl:l.length<=16) {mb cb fp fb y:Nat} {m:List Int} {q I:Nat->Nat} (k:gc h0 mb (ptrTo cb) b.nodes m q) (O:fS m+1=((y:Nat):Int)) (hM:y<=100) (bm:eX h0 fp fb y b.arcs.length ((b.arcs.length+7)/8) I) (oB:OkB b q ((b.arcs.length+7)/8) y 0 I)
 {way a:Int} (n:way=4\/way=5) (P:way=5->N=b.nodes/\1<=l.length/\eJ b.nodes l/\R=toR b l/\Q=frR b l) {s w:Nat} (o:s<b.nodes) (S:w<b.nodes) (ak:h0.t.Sized h0.n):
 Ret zO 15 [ptrTo bp,pt,.agg ⟨[ptrTo cb,ptrTo fp]⟩,.agg ⟨[.int .i64 way,.int .i64 (s:Nat),.int .i64 (w:Nat),.int .i64 a]⟩] h0 fun r z=>Gr h0 z/\ ∃c d vA A vE U,r=.tuple #[mS c d vA A,vE]/\(∀x,(aq vA x\/aq A x\/aq vE x)->h0.n<=x)/\av z 4 gG vE U/\U.length<=3000/\
  ((FAR<=dOf (seen b.arcs Arc.s Arc.t) s w/\c=20/\d=0/\vA=.slice none 0 0/\A=.slice none 0 0)\/
   (dOf (seen b.arcs Arc.s Arc.t) s w<FAR/\c=0/\d=(dOf (seen b.arcs Arc.s Arc.t) s w:Nat)/\(∃u,av z 1 cq vA u/\u.length<=1000/\my b.arcs s u w (dOf (seen b.arcs Arc.s Arc.t) s w))/\ ∃act:List Nat,av z 1 cq A act/\act.length<=16/\
     pC b.arcs (fun v x=>v<b.nodes/\(x:Int)+cR b.nodes l.length (toR b l) (frR b l) v w (act.map fun(x:Nat)=>(x:Int))<=(dOf (seen b.arcs Arc.s Arc.t) s w:Nat)) U)):=by
 have al:=dR;have eT:=fun {s:Nat} (o:s<b.nodes) (v:Nat)=>exTo M j H o v;have V:=fun {s:Nat} (o:s<b.nodes) (v:Nat)=>sV M j H o v;have lm:=k.len;have ai:=j.many;have B: ∀v,v<b.nodes->q v<y:=fun v hv=>by
  have J:=k.val v hv;have C:v<m.length:=by omega
  have e:m.getD v 0=m[v]:=by rw [Xa,Xc C,Option.getD_some]
  have:=lmax_ge (Xd C);omega
 have W: ∀i,i<b.arcs.length->(alF ((zM b.arcs.length).map (fj I ((b.arcs.length+7)/8) (q w))) i=true↔i∈dD b q (q w)):=fun i D=>by rw [alF_of D,oB _ i (by omega)];simp only [XN,Xi,and_false,or_false,B w S,true_and]
 refine(C6 (f:=s) (t:=w) (a:=a) (way:=way) M j H T hl cP cP (Cz j H k O bm) (fun _=>⟨k,rfl,bm,hM,rfl,B⟩)).mono ?_;rintro r z ⟨g,c,d,vA,A,vE,rfl,X,E⟩;have F:jD true way l.length N b.nodes=true:=by
  unfold jD;rcases n with rfl|rfl
  . rfl
  . obtain⟨Y,e2,_⟩:=P rfl;simp [Y];omega
 have Y:decide (way=4\/way=5)=true:=decide_eq_true n;have e2:decide (0<=(s:Int)/\(s:Int)<(b.nodes:Int))=true:=decide_eq_true (by omega);have e3:decide (0<=(w:Int)/\(w:Int)<(b.nodes:Int))=true:=decide_eq_true (by omega);rw [F,Y,e2,e3]at E;have hz:rC true true true true=0:=rfl;rw [hz]at E;have Z:=V o w;rw [eS]at Z⊢;rcases E with⟨h,rfl,rfl,rfl,rfl,rfl⟩|⟨_,s',G,fd,es,ew,ad,_,_,he,sE,E⟩
 . have e:s=w:=(by rcases h with h|h;exact absurd rfl h;omega);subst e;have af:=Z.self;rw [af];exact⟨g,_,_,_,_,_,[],rfl,X,.inl ⟨rfl,rfl⟩,Xe _,.inr ⟨by omega,rfl,rfl,⟨[],.inl ⟨rfl,rfl⟩,Xe _,.nil⟩,[],.inl ⟨rfl,rfl⟩,Xe _,fun i D=>by cases D⟩⟩
 . obtain rfl:s'=s:=(by omega);obtain rfl:G=w:=(by omega);obtain⟨f1,f2,f3,f4⟩:=sfP_feas (l:=l) (act:=(iP b.nodes l.length R Q s' G a).map fun(x:Nat)=>(x:Int)) (R:=R) (Q:=Q) (way:=way) eT V (fun h=>(P h).2.2) j S (alF ((zM b.arcs.length).map (fj I ((b.arcs.length+7)/8) (q G))));obtain⟨q1,q2⟩:=CH eT V j o S W f1 f2 he;have e:=q1.uniq Z;have p:=sn j o (.inr ⟨ad,he⟩);rw [<-e];rcases E with⟨K,rfl,rfl,rfl,rfl⟩|⟨K,rfl,rfl,sA,sB⟩
   . exact⟨g,_,_,_,_,_,fd.ev,rfl,X,sE,p.2,.inl ⟨K,rfl,rfl,rfl,rfl⟩⟩
   . obtain⟨p1,p2⟩:=q2 K;refine⟨g,_,_,_,_,_,fd.ev,rfl,X,sE,p.2,.inr ⟨K,rfl,rfl,⟨_,sA,by omega,p1⟩,_,sB,?_,?_⟩⟩
     . split
       . unfold iP;rw [XJ];omega
       . exact Xe _
     . have hb:=Cu j o f1 f3 he p2;intro i D;rcases hb i D with J|⟨J,h2,h3,L⟩
       . exact .inl J
       . refine .inr ⟨J,h2,h3,?_⟩;by_cases h:way=5
         . rw [if_pos h];rw [f4 _ h3 h]at L;obtain⟨_,rfl,rfl⟩:=(P h).2.2;exact L
         . rw [if_neg h];have hp: ∀v:Nat,piF (sfP b.nodes l R Q ((iP b.nodes l.length R Q s' G a).map fun(x:Nat)=>(x:Int)) way G) v=0:=fun v=>(by unfold sfP;rw [if_neg h];exact if_pos rfl);rw [hp]at L;simpa [cR]using L
structure Rl where
 g:FuncId
 post:Array Value
 ok:Bool
 code:Int
def encR(r:Rl):List Value:=[.func (.func r.g) #[] r.post,.int .i64 r.code]
theorem encR_len(r:Rl):(encR r).length=2:=rfl
def oE:List Rl->Int
 | []=>0|r::l=>if r.ok=true then oE l else r.code
theorem Ba{rs:List Rl}{i:Nat}(a:i<rs.length):oE (rs.drop i)=if rs[i].ok=true then oE (rs.drop (i+1))else rs[i].code:=by rw [XH a];rfl
theorem Bb {h0:Hp} (q:h0.t.Sized h0.n) {v:Value} {rs:List Rl} (g:av h0 2 encR v rs) (D:rs.length<1000) (s: ∀i (t:i<rs.length),(∀j,j<i->(rs.getD j ⟨0,#[],false,0⟩).ok=true)-> ∀h,Gr h0 h->aN zO rs[i].g rs[i].post.toList h (.bool rs[i].ok)):
 aN zO 109 [v] h0 (.int .i64 (oE rs)):=by
 have S:=Si q;refine aa (n:=18) (rs:=[.tmp 2]) rfl Tryz.e109 rfl rfl rfl (lbt rfl) ?_;simp only [BZ,g.lenq,seval];refine aV (fun(i:Nat) d h=>i<=rs.length/\St NoM h0 h [] []/\oE rs=oE (rs.drop i)/\(∀j,j<i->(rs.getD j ⟨0,#[],false,0⟩).ok=true)/\d 5=v/\d 6=.int .i64 (rs.length:Nat)/\d 7=.int .i64 i) (fun i=>rs.length-i) ?_ 0 _ _ ?_
 . clear S;intro i u d h ⟨t,S,e,hb,r5,r6,r7⟩;have w:am .i64 ((i:Int)+1)=((i+1:Nat):Int):=(by rw [wrap64]<;>omega);by_cases hlt:i<rs.length
   . obtain⟨c,o,x,y⟩:=(g.gr S.gr).ix (kd:=.i64) encR_len hlt;have k:=s i hlt hb;have a:rs.getD i ⟨0,#[],false,0⟩=rs[i]:=(by rw [Xa,Xc hlt];rfl);rw [Ba hlt]at e;generalize rs[i]=r at k y e a;have l:=S.gr;have z:=S;replace S:=Si S.ok;simp only [BZ,r5,r6,r7,az,hlt,x,y,encR,seval];refine ac ay S ?_;clear S;intro h m S p;simp only [BZ,seval];refine aC (S.store (i:=0) rfl ?_ ?_ rfl rfl ?_ ono) ?_
     . exact(by exact Tryz.t190.2.1)
     . exact(by intro x e;cases e)
     . exact lbt rfl
     clear S;rintro h ⟨S,A⟩;clear A;simp only [LC,ae,lay,Xn,Xo,seval]at S;simp only [BZ,S.ld (b:=m) (o:=0) m0 rfl,seval];refine ag (k _ (l.trans S.gr)) ?_;intro E B;replace S:=S.call B;cases f:r.ok with
     | true=>
       rw [f,if_pos rfl]at e;simp only [BZ,r7,w,seval];exact u (i+1) _ _ (by omega) ⟨by omega,z.call S.gr,e,fun j C=>by
        rcases Nat.lt_or_ge j i with h|h
        . exact hb j h
        . rw [show j=i by omega,a];exact f,by simp [aw,r5,r6]⟩
     | false=>rw [f,if_neg Bool.false_ne_true]at e;simp only [BZ,ab,S.ld (b:=m) (o:=1) m0 rfl,seval];exact⟨by rw [e],l.trans S.gr⟩
   . simp only [BZ,ab,r6,r7,az,hlt,seval];have:i=rs.length:=(by omega);subst this;rw [List.drop_length]at e;exact⟨by rw [e];rfl,S.gr⟩
 . exact⟨Xe _,S,rfl,fun j C=>by omega,by simp [aw,cD]⟩
theorem Aa{hq:Hp}{b2 f i:Nat}{j:Gra}{m:Nat}(c:aX hq m (ptrTo i) j){v:Int}(a:hq.load b2 0 1=some [.int .i64 v])(b:hq.load f 0 1=some [ptrTo i]): ∀h,Gr hq h->aN zO 108 [ptrTo b2,ptrTo f] h (.bool (decide (0<=v/\v<j.nodes))):=by
 intro h g;have S:=Si g.ok;have o:=bC g.ok (g.load a);have p:=bC g.ok (g.load b);refine aa (n:=11) (rs:=[.tmp 2]) rfl Tryz.e108 rfl rfl rfl (lbt rfl) ?_;simp only [BZ];refine ar (ax rfl) (q:=0) (ps:=[(3,5)]) (by kernel_rfl) ?_;by_cases d:0<=v
 . simp only [BZ,cls,g.load a,g.load b,d,seval];refine bM (bS S.ok ((c.gr g).gr S.gr)) ?_;intro r e;have k:=ao e o;have l:=ao e p;replace S:=S.call e;simp only [BZ,cls,ab,seval];refine⟨by simp only [aK,aS,aH,aU,aJ,ne_eq,not_false_eq_true,aW,aZ,aM,mg,bA,ca,aD,ah,dh,jo,lS,Xf,aB k,aF k,aB l,aF l,seval],S.gr⟩
 . simp only [BZ,cls,ab,g.load a,g.load b,d,seval];refine⟨by simp only [aK,aS,aH,aU,aJ,ne_eq,not_false_eq_true,aW,aZ,aM,mg,bA,ca,aD,ah,dh,jo,lS,Xf,seval],by simp [d],S.gr⟩
theorem node_ok{h0:Hp}(d:h0.t.Sized h0.n){a:Nat}{v:Int}:Ret zO 107 [.int .i64 v,ptrTo a] h0 fun r b=>Gr h0 b/\ ∃b2,r=.func (.func 108) #[] #[ptrTo b2,ptrTo a]/\b.load b2 0 1=some [.int .i64 v]:=by have S:=Si d;refine aa (n:=5) (rs:=[.tmp 3]) rfl Tryz.e107 rfl rfl rfl (lbt rfl) ?_;simp only [BZ,seval];refine ac (bW (by exact bR)) S ?_;clear S;intro h b2 S c;simp only [BZ,ab,seval];exact⟨S.gr,b2,rfl,S.ld m0 rfl⟩
def isP:Value->Bool
 | .pointer none=>false|_=>true
theorem net2_ok{hq:Hp}{a:Nat}{p:Value}(d:(∃b,p=ptrTo b)\/p=.pointer none)(c:hq.load a 0 1=some [p]): ∀h,Gr hq h->aN zO 110 [ptrTo a] h (.bool (isP p)):=by
 intro h g;have S:=Si g.ok;refine aa (n:=4) (rs:=[.tmp 1]) rfl Tryz.e110 rfl rfl rfl (lbt rfl) ?_;rcases d with⟨e,rfl⟩|rfl
 . simp only [BZ,ab,g.load c,seval];exact⟨rfl,S.gr⟩
 . simp only [BZ,ab,g.load c,seval];exact⟨rfl,S.gr⟩
theorem tab3_ok{hq:Hp}{m b4 o p mk:Nat}{s:Value}{t:Gra}{C:Nat}(c:aX hq C (ptrTo o) t)(T:TabO zO hq s p mk 43 42)(e:hq.load b4 0 1=some [s])(d:hq.load m 0 1=some [ptrTo o]): ∀h,Gr hq h->aN zO 111 [ptrTo b4,ptrTo m] h (.bool (decide (0<mk/\p=t.nodes))):=by
 intro h g;have D:=T.fl;have S:=Si g.ok;have f:=bC g.ok (g.load e);have i:=bC g.ok (g.load d);refine aa (n:=14) (rs:=[.tmp 2]) rfl Tryz.e111 rfl rfl rfl (lbt rfl) ?_;simp only [BZ];refine ar (ax rfl) (q:=0) (ps:=[(6,7)]) (by kernel_rfl) ?_;simp only [BZ,cls,g.load e,g.load d,seval];refine cu (T.marks _ (g.trans S.gr)) ?_;rintro r E ⟨a,l,u,el⟩;replace S:=S.call a;have v:=ao a f;have w:=ao a i;by_cases x:0<mk
 . have j:(0:Int)<(l.length:Int):=(by omega);simp only [BZ,cls,u.lenq,j,a.load (g.load e),a.load (g.load d),seval];refine bM (T.nodes _ (g.trans S.gr)) ?_;intro F b;have y:=ao b (Xb f a.n);have z:=ao b (Xb i a.n);replace S:=S.call b;simp only [BZ,cls,b.load (a.load (g.load d)),seval];refine bM (bS S.ok ((c.gr g).gr S.gr)) ?_;intro G k;have A:=ao k (Xb f (a.trans b).n);have B:=ao k (Xb i (a.trans b).n);replace S:=S.call k;simp only [BZ,cls,ab,seval];refine⟨by simp only [aK,aS,aH,aU,aJ,ne_eq,not_false_eq_true,aW,aZ,aT,aM,bA,ca,aD,Xf,ah,dh,aB w,aF w,aB v,aF v,aB z,aF z,aB y,aF y,aB B,aF B,aB A,aF A,seval],?_⟩;exact⟨by simp [x,Int.ofNat_inj],S.gr⟩
 . have j: ¬(0:Int)<(l.length:Int):=(by omega);simp only [BZ,cls,ab,u.lenq,j,seval];refine⟨by simp only [aK,aS,aH,aU,aJ,ne_eq,not_false_eq_true,jo,lS,Xf,seval],by simp [x],S.gr⟩
def wC(p:Value)(N a mk:Nat)(f t:Int):Int:=if isP p=true then kj N a mk f t else 1
theorem TabO.gr{E:Env}{h a:Hp}{b:Value}{c mk:Nat}{d e:FuncId}(T:TabO E h b c mk d e)(g:Gr h a):TabO E a b c mk d e:=⟨T.fl,fun x k=>T.marks x (g.trans k),fun x k=>T.nodes x (g.trans k)⟩
theorem firstC4{p:Value}{N b mk:Nat}{f t:Int}{d e g h:FuncId}{i j k l:Array Value}:oE [⟨d,i,isP p,1⟩,⟨e,j,decide (0<=f/\f<N),17⟩,⟨g,k,decide (0<=t/\t<N),18⟩,⟨h,l,decide (0<mk/\b=N),19⟩]=wC p N b mk f t:=by
 simp only [oE,wC,kj,decide_eq_true_eq];cases isP p with
 |false=>rfl| true=>
   simp only [if_true];by_cases a:0<=f/\f<(N:Int)
   . by_cases c:0<=t/\t<(N:Int)
     . simp only [a,c,not_true_eq_false,if_false,and_self,if_true]
     . simp only [a,c,not_true_eq_false,not_false_eq_true,if_false,and_self,if_true]
   . simp only [a,not_false_eq_true,if_false,if_true]
theorem Bz{h0:Hp}(ok:h0.t.Sized h0.n){p K L:Value}{N A mk:Nat}{f t a:Int}(fq:Fl L)(k:(∃j l w,p=ptrTo j/\aX h0 w (ptrTo j) l/\N=l.nodes)\/p=.pointer none)(T:TabO zO h0 K A mk 43 42):
 aN zO 45 [p,K,.agg ⟨[L,.int .i64 f,.int .i64 t,.int .i64 a]⟩] h0 (.int .i64 (wC p N A mk f t)):=by
 have fp:Fl p:=by rcases k with⟨_,_,_,rfl,_⟩|rfl<;>exact cP
 have ft:=T.fl;have S:=Si ok;refine aa (n:=25) (rs:=[.tmp 6]) rfl Tryz.e45 rfl rfl rfl (lbt rfl) ?_;simp only [BZ,seval];refine ac (bW (by assumption)) S ?_;clear S;intro h m S M;simp only [BZ,if_false,seval];refine ac (bW (by assumption)) S ?_;clear S;intro h O S P;simp only [BZ,if_false,seval];refine ac (bg (by intro x e;cases e)) S ?_;clear S;intro h r S Q;simp only [ae]at S;have R:=S.gr;have B:=S.ok;have r3:=S.ld (b:=m) (o:=0) m2 rfl;have r4:=S.ld (b:=O) (o:=0) m1 rfl;have C:=S.ld (b:=r) (o:=1) m0 rfl;have D:=S.ld (b:=r) (o:=2) m0 rfl;have U:=(S.row (b:=r) m0).lt S.ok;clear S;rename Hp=>hq;have S:=Si B;simp only [BZ,seval];refine ar (ax rfl) (q:=16384) (ps:=[(5,9)]) (by kernel_rfl) ?_;simp only [BZ,cls,C,seval];refine cu (node_ok S.ok) ?_;rintro v1 h ⟨g,x1,rfl,E⟩;have V:leaves _ _ r=true:=ao g U;have k1:=g.n;replace S:=S.call g;simp only [BZ,cls,g.load D,seval];clear g;refine cu (node_ok S.ok) ?_;rintro v2 h ⟨g,x2,rfl,l2⟩;have W:leaves _ _ r=true:=ao g (Xb U k1);replace S:=S.call g;replace E:=g.load E;simp only [BZ,cls,seval];have y:=S.gr;have F:=S.ok;clear S g;rename Hp=>hA;have S:=Si F;refine dL (bV (by exact Tryz.t259.1) (by exact Tryz.e190E) (by decide) (by rfl)) S ?_;clear S;intro h X S Y Z;simp only [LC,a9,bQ,ae,XU,Xz,XV,XW,seval]at S;have s:=S.gr;have G:=S.ok;have d:=s.load (y.load r3);have H:=s.load (y.load r4);have I:=s.load E;have J:=s.load l2;have z:=(R.trans y).trans s;simp only [BZ,cls,seval];refine bM (Bb G (rs:=[⟨110,#[ptrTo m],isP p,1⟩,⟨108,#[ptrTo x1,ptrTo m],decide (0<=f/\f<N),17⟩,⟨108,#[ptrTo x2,ptrTo m],decide (0<=t/\t<N),18⟩,⟨111,#[ptrTo O,ptrTo m],decide (0<mk/\A=N),19⟩]) (.inr ⟨X,0,none,4,rfl,Xs _,S.lds (b:=X) (o:=0) (n:=4*2) m0 (lbt rfl)⟩) (by simp) (fun i hi=>?_)) ?_
 . have ad:i<4:=hi;rcases(by omega:i=0\/i=1\/i=2\/i=3)with rfl|rfl|rfl|rfl
   . intro _;refine net2_ok ?_ d;rcases k with⟨j,_,_,rfl,_⟩|rfl
     . exact .inl ⟨j,rfl⟩
     . exact .inr rfl
   . intro u;have v:isP p=true:=u 0 (by omega);rcases k with⟨j,l,w,rfl,c,rfl⟩|rfl
     . exact Aa (c.gr z) I d
     . cases v
   . intro u;have v:isP p=true:=u 0 (by omega);rcases k with⟨j,l,w,rfl,c,rfl⟩|rfl
     . exact Aa (c.gr z) J d
     . cases v
   . intro u;have v:isP p=true:=u 0 (by omega);rcases k with⟨j,l,w,rfl,c,rfl⟩|rfl
     . exact tab3_ok (c.gr z) (T.gr z) H d
     . cases v
 . intro h g;rw [firstC4];replace S:=S.call g;simp only [BZ,cls,ab,seval];refine⟨by simp only [aK,aS,aH,aU,aJ,ne_eq,not_false_eq_true,aW,aZ,aT,aM,bA,ca,aD,Xf,ah,aF V,aB V,aF W,aB W,seval],?_⟩;exact(R.trans y).trans S.gr
end Go.Ab
end

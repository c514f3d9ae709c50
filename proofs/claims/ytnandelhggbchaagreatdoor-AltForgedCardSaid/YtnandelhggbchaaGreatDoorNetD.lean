/- Nets, cells, flags: what the functions do (part 4). -/
import Derived.Test.YtnandelhggbchaaGreatDoorNetC
import Derived.ChangeSlices
import Derived.ChangeArms
import Derived.ChangeSame
import Derived.OpenShut
open Go.Ab.Tryz
open List renaming getD_eq_getElem?_getD->zj,getElem?_eq_getElem->zk,mem_append_left->zn,mem_cons_of_mem->zo,mem_cons_self->zw,take->zy,drop->zz,length_map->zC,getElem_mem->zD,length_cons->zF,length_take->zG,map_cons->zH,getElem?_append_left->zI,map_nil->zJ,getElem?_map->zK,size_toArray->zL,take_succ_eq_append_getElem->zO,not_mem_nil->zP,mem_append_right->zQ,map_append->zU,take_append_of_le_length->zV,filterMap_cons->zW,length_append->zX,filterMap_nil->zZ,mem_cons->z7,filter_cons_of_neg->z8,filter_cons_of_pos->z9,append_nil->Xa,foldl_cons->Xb,sublist_cons_self->Xd,flatMap_eq_foldl->Xe,mem_of_getElem?->Xf,all_cons->Xh,take_succ_cons->Xi,all_nil->Xk
open Go.Ab.Tryz renaming abEnv->zl,e24E->Xl
open Nat renaming lt_of_lt_of_le->zp,lt_of_succ_le->zq,zero_le->zt,le_refl->zu,mul_one->zM,zero_add->zR,le_trans->zT,add_sub_cancel->zY,min_eq_left->Xc,mul_le_mul_right->Xg,zero_mul->Xj,one_mul->Xm
open Int renaming cast_ofNat_Int->zx
open Bool renaming and_true->zN
set_option maxHeartbeats 4000000
set_option linter.defProp false
set_option linter.unusedVariables false
set_option linter.unusedSimpArgs false
section
namespace Go.Ab
open Go.Proofs
set_option maxRecDepth 10000
def Tryz.FQ:=aj t1<|aj t2<|aj t3<|aj t4<|aj t5<|aj t6<|aj Z2<|aj Z5<|aj t9<|aj t22<|aj t24<|aj Z10<|Z16
theorem St.adoptG{M:Nat->Prop}{h0 h:Hp}{L:List (Nat×Ob)}{G:List GL}(S:St M h0 h L G){p:GL}(k:dz h p)(f: ∀b,c8 p=some b->(h0.n<=b\/M b)/\b∉keys L G):St M h0 h L (p::G):=by
 refine⟨S.fr,S.own,fun q g=>?_,?_⟩
 . rcases List.mem_cons.1 g with rfl|g
   . exact⟨k,fun b m=>(f b m).1⟩
   . exact S.gown q g
 . have d:=S.apart
   unfold keys at d f⊢
   rw [zW]
   cases n:c8 p with
   |none=>exact d
   | some b=>
     have i:=(f b n).2
     simp only []
     rw [List.nodup_append]at d⊢
     simp only [List.mem_append,not_or]at i
     refine⟨d.1,List.nodup_cons.2 ⟨i.2,d.2.1⟩,fun a l c j e=>?_⟩
     subst e
     rcases List.mem_cons.1 j with rfl|j
     . exact i.1 l
     . exact d.2.2 a l a j rfl
theorem wC{h0:Hp}(V:h0.t.Sized h0.n){H I J:Value}{M O P Q:Int}{d:List Int}(fB:Fl H)(fM:Fl I)(F:SlW h0 .i64 J d){N i:Nat}(n2:N<=12)(W:i<=1000):
 Ret zl 18 [.agg ⟨[H,I,.int .i64 M,.int .i64 O,.int .i64 P,.int .i64 Q,J]⟩,.int .i64 (N:Nat),.int .i64 (i:Nat)] h0 fun v t=>Gr h0 t/\ ∃r,gX N r/\dz t (v,1,ints r)/\ ∀c,av v c->h0.n<=c:=by
 have S:=Si V
 have fN:=F.sl.fl
 refine ag (n:=37) (rs:=[.tmp 6]) rfl Tryz.e18 rfl rfl rfl (lbt rfl) ?_
 simp only [BS,Nat.reduceLT]
 refine am (bE (by intro x e;cases e)) S ?_;clear S;intro h u S R;simp only [ah]at S
 simp only [BS]
 replace S:=S.nilG (k:=1)
 refine bg (fun(v:Nat) l h=>v<=N/\ ∃f r,St NoM h0 h [(u,.row [H,I,.int .i64 M,.int .i64 O,.int .i64 P,.int .i64 Q,J] 1)] [(f,1,ints r)]/\gX v r/\l 1=.int .i64 N/\l 2=.int .i64 i/\l 3=ptrTo u/\l 7=f/\l 8=.int .i64 v) (fun v=>N-v) ?_ 0 _ _ ?_
 . clear S
   intro v X l h ⟨hv,f,r,S,hr,p,w,s,r7,r8⟩
   have Y:au .i64 ((v:Int)+1)=((v+1:Nat):Int):=by rw [wrap64]<;>omega
   have Z:Fl f:=by
    rcases(S.gown _ m0).1 with⟨e,_⟩|⟨_,_,e,_⟩
    . rw [show f=_ from e];exact bD
    . rw [show f=_ from e];exact bD
   by_cases z:v<N
   . simp only [BS,LB,Nat.reduceLT,Nat.reduceEqDiff,FQ,p,s,r8,aI,z,F.sl.lenq,S.ld (b:=u) (o:=6) m0 rfl]
     refine sG (fun a t=>t=h/\a 1=.int .i64 N/\a 2=.int .i64 i/\a 3=ptrTo u/\a 7=f/\a 8=.int .i64 v/\ ∃x:Int,a 9=.int .i64 x) ?_ ?_ ?_
     . intro G
       have A:0<d.length:=by have:=of_decide_eq_true G;omega
       obtain⟨g,aa⟩: ∃g:Nat,g=i+v:=⟨_,rfl⟩
       have u4:au .i64 ((i:Int)+(v:Int))=(g:Int):=by rw [wrap64]<;>omega
       have nz:(d.length:Int)≠0:=by omega
       have tm:(g:Int).tmod (d.length:Int)=((g%d.length:Nat):Int):=by rw [Int.tmod_eq_emod_of_nonneg (by omega)];exact(Int.natCast_emod _ _).symm
       have B:g%d.length<d.length:=Nat.mod_lt _ A
       obtain⟨cc,oo,C,K⟩:=(F.sl.gr S.gr).ix (kd:=.i64) (cO .i64) B
       simp only [BS]
       refine aE (aK rfl) (q:=0) (ps:=[]) (by kernel_rfl) ?_
       simp only [BS,LB,cls,Nat.reduceLT,Nat.reduceEqDiff,Nat.reduceAdd,Nat.reducePow,Nat.reduceDiv,Nat.reduceMod,Nat.reduceLeDiff,FQ,w,s,r8,u4,F.sl.lenq,ou nz,tm,C,K,encI,S.ld (b:=u) (o:=6) m0 rfl]
       exact gJ ⟨rfl,by simp [ab,p],by simp [ab,w],by simp [ab,s,ao],by simp [ab,r7],by simp [ab,r8],d[g%d.length],by simp [ab]⟩
     . intro G
       simp only [BS]
       exact gJ ⟨rfl,by simp [ab,p],by simp [ab,w],by simp [ab,s,ao],by simp [ab,r7],by simp [ab,r8],0,by simp [ab]⟩
     . rintro a t ⟨rfl,p,w,s,r7,r8,x,r9⟩
       simp only [BS,LB,Nat.reduceLT,Nat.reduceEqDiff,r7,r9]
       refine am (bW (by exact Tryz.t24.1) (by exact Tryz.e2E) (by decide) (by rfl)) S ?_;clear S;intro h T S U;simp only [LC,aV,bJ,ah,Nat.reduceMul,Nat.reduceAdd,Xj,zR,zM,Xm]at S
       simp only [BS,LB,Nat.reduceLT,Nat.reduceEqDiff]
       have D:aL h 1 (.slice (some ⟨T,0,none⟩) 1 1)=some (1,ints [min 72057594037927936 (max 0 x)]):=by simp only [aL];rw [S.lds (b:=T) (o:=0) (n:=1*1) m0 (lbt rfl)];rfl
       replace S:=S.drop1
       refine dQ (S.grow (j:=0) (m:=1) (new:=ints [min 72057594037927936 (max 0 x)]) rfl Tryz.t24.1 Tryz.e2E (by decide) Tryz.t24.2.2.2.2.2 D rfl (by decide) rfl (by rw [cZ,cZ];have:=hr.1;simp;omega)) ?_
       clear S D;rintro h L S
       rw [<-mJ]at S
       simp only [LC]at S
       simp only [BS,LB,Nat.reduceLT,Nat.reduceEqDiff,r8,Y]
       refine X (v+1) _ _ (by omega) ⟨by omega,L,r++[min 72057594037927936 (max 0 x)],S,⟨by rw [zX,hr.1];rfl,fun y E=>?_⟩,by simp [ab,p],by simp [ab,w],by simp [ab,s,ao],by simp [ab],by simp [ab]⟩
       rcases List.mem_append.1 E with E|E
       . exact hr.2 y E
       . rw [List.mem_singleton.1 E];omega
   . obtain rfl:v=N:=by omega
     simp only [BS,LB,ae,Nat.reduceLT,Nat.reduceEqDiff,p,r7,r8,aI,z]
     exact⟨S.gr,r,hr,(S.gown _ m0).1,fun c G=>((S.gblk m0 G).1).elim id (fun h=>h.elim)⟩
 . exact⟨zt _,_,[],S,⟨rfl,by simp⟩,by simp [ab,cC],by simp [ab,cC],by simp [ab,ao],by simp [ab],by simp [ab]⟩
def RowsIn(h:Hp)(m:Nat)(K:List Nat)(a:List Value)(R:Nat->List Int):Prop:= ∀(j:Nat) w,a[j]? =some w->ax h 1 (encI .i64) w (R j)/\ ∀c,av w c->m<=c/\c∉K
theorem RowsIn.gr{h a:Hp}{m:Nat}{K:List Nat}{b:List Value}{R:Nat->List Int}(r:RowsIn h m K b R)(g:Gr h a):RowsIn a m K b R:=fun j w c=>⟨(r j w c).1.gr g,(r j w c).2⟩
theorem RowsIn.push{h:Hp}{m:Nat}{K:List Nat}{a:List Value}{R:Nat->List Int}{y:Value}(r:RowsIn h m K a R)(d:ax h 1 (encI .i64) y (R a.length))(e: ∀c,av y c->m<=c/\c∉K):RowsIn h m K (a++[y]) R:=fun j w b=>by
 rcases oX b with b|⟨rfl,rfl⟩
 . exact r j w b
 . exact⟨d,e⟩
theorem RowsIn.step{h e:Hp}{m:Nat}{L L':List (Nat×Ob)}{G G':List GL}{f:List Value}{R:Nat->List Int}(r:RowsIn h m (keys L G) f R)(T:St (· ∈keys L G) h e L' G'):RowsIn e m (keys L' G') f R:=fun j w i=>by
 obtain⟨a,b⟩:=r j w i
 refine⟨a.mo T.fr (fun c d=>(b c d).2),fun c d=>⟨(b c d).1,fun k=>?_⟩⟩
 rcases T.key_new c k with g|g
 . exact(b c d).2 g
 . have:=a.lt T.fr.ok0 d;omega
def pos:List Int->Int->Option Nat
 | [],_=>none
 |y::a,x=>if x=y then some 0 else(pos a x).map (· +1)
theorem St.mput{M:Nat->Prop}{h0 h:Hp}{L:List (Nat×Ob)}{G:List GL}(S:St M h0 h L G){E:Env}{t kt el:TypeId}{i b c:Nat}{a:List (Value×Value×Nat)}{k v:Value}(d:L[i]? =some (b,.map a c))(g:E.und t=some (.map kt el))(hf:aM E kt k=true)(j:aJ k a=some none):
 ∃e,c7 E h t (.map (some b)) k v=some e/\St M h0 e (L.set i (b,.map (a++[(k,v,c)]) (c+1))) G:=by
 have f:h.get b=some (.map a c):=(S.own _ (Xf d)).2
 refine⟨h.put b (.map (a++[(k,v,c)]) (c+1)),?_,S.put d ?_⟩
 . simp only [c7,gc,g,hf,cond_true,f,j]
 . show(h.put b _).get b=_
   rw [Hp.get_put,if_pos ⟨rfl,by rw [f];rfl⟩]
def lmax:List Int->Int
 | []=>0
 |x::a=>a.foldl max x
def jX(h:Hp)(n:Nat)(p:Value)(m:List Int):Prop:= ∃b v,p=ptrTo b/\Row h b [v,.int .i64 (lmax m+1)] 1/\ax h 1 (encI .i64) v m/\n<=b/\ ∀c,av v c->n<=c
theorem jX.mo{M:Nat->Prop}{h a:Hp}{n:Nat}{p:Value}{m:List Int}(c:jX h n p m)(g:Mo M h a)(d: ∀b,M b->b<n):jX a n p m:=by
 obtain⟨b,v,e,r,s,i,f⟩:=c
 exact⟨b,v,e,g.has (o:=.row _ 1) r (fun h=>by have:=d _ h;omega),s.mo g (fun c j k=>by have:=d _ k;have:=f c j;omega),i,f⟩
theorem jX.gr{h a:Hp}{n:Nat}{p:Value}{m:List Int}(c:jX h n p m)(g:Gr h a):jX a n p m:=c.mo (M:=NoM) g.fr (fun _ h=>h.elim)
def tI(h:Hp)(p:Value)(m:List Int)(n:Int):Prop:=(p=.pointer none/\m=[]/\n=0)\/((∃k,jX h k p m)/\n=lmax m+1)
theorem tI.gr{h a:Hp}{p:Value}{m:List Int}{n:Int}(g:Gr h a)(c:tI h p m n):tI a p m n:=c.imp (fun h=>h) (fun⟨⟨k,h⟩,e⟩=>⟨⟨k,h.gr g⟩,e⟩)
def BitsAt(h:Hp)(p:Value)(a w:Int)(c:Bool):Prop:=(p=.pointer none/\a=0/\w=0/\c=false)\/ ∃b x y,p=ptrTo b/\Row h b [.int .i64 a,.int .i64 w,x,y] 1/\c=true
theorem BitsAt.gr{h d:Hp}{p:Value}{a w:Int}{f:Bool}(g:Gr h d)(c:BitsAt h p a w f):BitsAt d p a w f:=c.imp (fun h=>h) (fun⟨b,x,y,e,r,n⟩=>⟨b,x,y,e,r.gr g,n⟩)
theorem ax.blt{α:Type}{h:Hp}{k:Nat}{enc:α->List Value}{v:Value}{xs:List α}(e:h.t.Sized h.n)(s:ax h k enc v xs){c:Nat}(a:av v c):c<h.n:=by
 rcases s with⟨rfl,_⟩|⟨b,o,_,_,rfl,_,f⟩
 . exact a.elim
 . have:b=c:=a
   subst this
   cases d:h.get b with
   |none=>simp [Hp.load,d]at f
   |some x=>exact eX e d
end Go.Ab
end
section
namespace Go.Ab
structure Ev2 where
 kind:Nat
 side:Bool
 id:Nat
 lab:Nat
structure Sd where
 K:Nat->Option Int
 L:Nat->Option Nat
 P:Nat->List Nat
 O:List Nat
structure Bi where
 sd:Bool->Sd
 ev:List Ev2
 dist:Nat
 meet:Nat
def fsB(i:Bool):Arc->Nat:=if i then Arc.t else Arc.s
def ftB(i:Bool):Arc->Nat:=if i then Arc.s else Arc.t
def qB(pi:Nat->Int)(i:Bool)(v:Nat):Int:=if i then-pi v else pi v
def OpB(pi:Nat->Int)(v:Nat):Prop:= -(FAR:Int)<pi v/\pi v<(FAR:Int)
instance (pi:Nat->Int)(v:Nat):Decidable (OpB pi v):=by unfold OpB;infer_instance
def eC(f:Bool->Sd)(i:Bool)(x:Sd):Bool->Sd:=fun j=>if j=i then x else f j
def leO(o:Option Nat)(lab:Nat):Bool:=match o with
 |some w=>decide (w<=lab)
 |none=>false
def om(o:Option Nat)(σ:Bi)(v lab:Nat):Bi:=match o with
 |some m=>if lab+m<σ.dist then⟨σ.sd,σ.ev,lab+m,v⟩else σ
 |none=>σ
def eh(pi:Nat->Int)(x:Sd)(i:Bool)(v lab:Nat)(p:List Nat):Sd:=⟨dL x.K v (some (2*lab+qB pi i v)),fun u=>if u=v then some lab else x.L u,je x.P v p,x.O⟩
def g9(pi:Nat->Int)(i:Bool)(σ:Bi)(v lab:Nat)(p:List Nat):Bi:=
 if v∈(σ.sd i).O\/ ¬OpB pi v\/leO ((σ.sd i).L v) lab=true then σ else om ((σ.sd (!i)).L v) ⟨eC σ.sd i (eh pi (σ.sd i) i v lab p),σ.ev,σ.dist,σ.meet⟩ v lab
def labB(σ:Bi)(i:Bool)(v:Nat):Nat:=((σ.sd i).L v).getD 0
def evB(σ:Bi)(e:Ev2):Bi:=⟨σ.sd,σ.ev++[e],σ.dist,σ.meet⟩
def closeB(σ:Bi)(i:Bool)(v:Nat):Bi:=⟨eC σ.sd i ⟨dL (σ.sd i).K v none,(σ.sd i).L,(σ.sd i).P,(σ.sd i).O++[v]⟩,σ.ev++[⟨0,i,v,labB σ i v⟩],σ.dist,σ.meet⟩
def jy(A:List Arc)(b:Nat->Bool)(pi:Nat->Int)(i:Bool)(v:Nat)(σ:Bi)(a:Nat):Bi:=
 if b a=true then g9 pi i (evB σ ⟨1,i,a,0⟩) (ftB i (A.getD a default)) (labB σ i v+(A.getD a default).w) (a::(σ.sd i).P v)else σ
theorem iJ{f:Bool->Sd}{i:Bool}{x:Sd}:eC f i x i=x:=if_pos rfl
theorem wO{f:Bool->Sd}{i:Bool}{x:Sd}:eC f i x (!i)=f (!i):=if_neg (by cases i<;>decide)
theorem updS_ne{f:Bool->Sd}{i j:Bool}{x:Sd}(h:j≠i):eC f i x j=f j:=if_neg h
theorem mP{o:Option Nat}{σ:Bi}{v lab:Nat}:(om o σ v lab).sd=σ.sd/\(om o σ v lab).ev=σ.ev:=by
 unfold om
 split
 . split<;>exact⟨rfl,rfl⟩
 . exact⟨rfl,rfl⟩
section
variable{A:List Arc}{N:Nat}{al:Nat->Bool}{pi:Nat->Int}{σ:Bi}{rt:Bool->Nat}
structure SvB(A:List Arc)(N r:Nat)(al:Nat->Bool)(pi:Nat->Int)(i:Bool)(x:Sd):Prop where
 nd:x.O.Nodup
 lt: ∀v∈x.O,v<N/\x.L v≠none
 op: ∀v k,x.K v=some k->v∉x.O/\ ∃l,x.L v=some l/\k=2*(l:Int)+qB pi i v
 lab: ∀v l,x.L v=some l->v<N/\OpB pi v/\l<=x.O.length*co/\(x.P v).length<=x.O.length/\(v∈x.O\/x.K v≠none)
 path: ∀v l,x.L v=some l->(v=r/\x.P v=[]/\l=0)\/ ∃a m,a<A.length/\al a=true/\ftB i (A.getD a default)=v/\fsB i (A.getD a default)∈x.O/\x.P v=a::x.P (fsB i (A.getD a default))/\x.L (fsB i (A.getD a default))=some m/\l=m+(A.getD a default).w
structure BiI(A:List Arc)(N:Nat)(rt:Bool->Nat)(al:Nat->Bool)(pi:Nat->Int)(σ:Bi):Prop where
 sv: ∀i,SvB A N (rt i) al pi i (σ.sd i)
 dm:(σ.dist=FAR/\ ∀i v x,(σ.sd i).L v=some x->(σ.sd (!i)).L v=none)\/(∀i,∃x y,(σ.sd i).L σ.meet=some x/\(σ.sd (!i)).L σ.meet=some y/\σ.dist=x+y)
 le: ∀i v x y,(σ.sd i).L v=some x->(σ.sd (!i)).L v=some y->σ.dist<=x+y
theorem SvB.len{r:Nat}{i:Bool}{x:Sd}(h:SvB A N r al pi i x):x.O.length<=N:=mH N x.O h.nd (fun v a=>(h.lt v a).1)
theorem q8{i j:Bool}(h:j≠i):j= !i:=by cases i<;>cases j<;>first|rfl|exact absurd rfl h
theorem SvB.put{r v lab:Nat}{b:Bool}{x:Sd}{p:List Nat}(h:SvB A N r al pi b x)(D:v∉x.O)(q:OpB pi v)(H:v<N)(I:lab<=x.O.length*co)(J:p.length<=x.O.length)
 (g:(v=r/\p=[]/\lab=0)\/ ∃a m,a<A.length/\al a=true/\ftB b (A.getD a default)=v/\fsB b (A.getD a default)∈x.O/\p=a::x.P (fsB b (A.getD a default))/\x.L (fsB b (A.getD a default))=some m/\lab=m+(A.getD a default).w):
 SvB A N r al pi b (eh pi x b v lab p):=by
 have i: ∀{u},u∈x.O->u≠v:=fun j e=>D (e▸j)
 have f: ∀{u},u≠v->(eh pi x b v lab p).L u=x.L u:=fun h=>if_neg h
 have E: ∀{u},u≠v->(eh pi x b v lab p).K u=x.K u:=fun h=>if_neg h
 have n: ∀{u},u≠v->(eh pi x b v lab p).P u=x.P u:=fun h=>if_neg h
 have s:(eh pi x b v lab p).L v=some lab:=if_pos rfl
 have F:(eh pi x b v lab p).K v=some (2*(lab:Int)+qB pi b v):=if_pos rfl
 have G:(eh pi x b v lab p).P v=p:=if_pos rfl
 refine⟨h.nd,fun u j=>⟨(h.lt u j).1,by rw [f (i j)];exact(h.lt u j).2⟩,fun u k o=>?_,fun u l c=>?_,fun u l c=>?_⟩
 . by_cases e:u=v
   . subst e;rw [F]at o;cases o;exact⟨D,lab,s,rfl⟩
   . rw [E e]at o;rw [f e];exact h.op u k o
 . by_cases e:u=v
   . subst e;rw [s]at c;cases c
     exact⟨H,q,I,by rw [G];exact J,.inr (by rw [F];nofun)⟩
   . rw [f e]at c;rw [E e,n e];exact h.lab u l c
 . by_cases e:u=v
   . subst e;rw [s]at c;cases c
     rw [G]
     rcases g with g|⟨a,m,t,w,y,d,z,B,C⟩
     . exact .inl g
     . exact .inr ⟨a,m,t,w,y,d,by rw [n (i d)];exact z,by rw [f (i d)];exact B,C⟩
   . rw [f e]at c;rw [n e]
     rcases h.path u l c with g|⟨a,m,t,w,y,d,z,B,C⟩
     . exact .inl g
     . exact .inr ⟨a,m,t,w,y,d,by rw [n (i d)];exact z,by rw [f (i d)];exact B,C⟩
theorem BiI.reach {b:Bool} {v lab:Nat} {p:List Nat} (s:N<=12) (h:BiI A N rt al pi σ) (M:v<N) (O:lab<=(σ.sd b).O.length*co) (Q:p.length<=(σ.sd b).O.length)
 (R:(v=rt b/\p=[]/\lab=0)\/ ∃a m,a<A.length/\al a=true/\ftB b (A.getD a default)=v/\fsB b (A.getD a default)∈(σ.sd b).O/\p=a::(σ.sd b).P (fsB b (A.getD a default))/\(σ.sd b).L (fsB b (A.getD a default))=some m/\lab=m+(A.getD a default).w):
 BiI A N rt al pi (g9 pi b σ v lab p):=by
 unfold g9
 split
 . exact h
 . rename_i I
   simp only [not_or,Decidable.not_not]at I
   obtain⟨S,G,hle⟩:=I
   have w: ∀i,SvB A N (rt i) al pi i (eC σ.sd b (eh pi (σ.sd b) b v lab p) i):=fun i=>by
    by_cases e:i=b
    . subst e;rw [iJ];exact(h.sv i).put S G M O Q R
    . rw [updS_ne e];exact h.sv i
   have k: ∀u,(eC σ.sd b (eh pi (σ.sd b) b v lab p) (!b)).L u=(σ.sd (!b)).L u:=fun u=>by rw [wO]
   have F:(eC σ.sd b (eh pi (σ.sd b) b v lab p) b).L v=some lab:=by rw [iJ];exact if_pos rfl
   have r: ∀{u},u≠v->(eC σ.sd b (eh pi (σ.sd b) b v lab p) b).L u=(σ.sd b).L u:=fun {u} e=>by rw [iJ];exact if_neg e
   -- the smaller facts, for side b and its opposite
   have T:=h.sv b
   have U:=nH
   have Y:=oe
   have z: ∀{i u l},(σ.sd i).L u=some l->l<=12*co:=fun {i u l} V=>by
    have o:=((h.sv i).lab u l V).2.2.1
    have g:=Xg co (zT (h.sv i).len s)
    omega
   have J:lab<=12*co:=by
    have g:=Xg co (zT T.len s)
    omega
   have j: ∀{P:Bool->Prop},P b->P (!b)-> ∀i,P i:=fun {P} W X i=>by
    by_cases e:i=b
    . subst e;exact W
    . rw [q8 e];exact X
   have n:(!(!b))=b:=by cases b<;>rfl
   cases q:(σ.sd (!b)).L v with
   | none =>
     unfold om
     simp only []
     refine⟨w,?_,?_⟩
     . rcases h.dm with⟨K,H⟩|d
       . refine .inl ⟨K,j (P:=fun i=> ∀u x,(eC σ.sd b (eh pi (σ.sd b) b v lab p) i).L u=some x->(eC σ.sd b (eh pi (σ.sd b) b v lab p) (!i)).L u=none) (fun u x c=>?_) (fun u x c=>?_)⟩
         . rw [k]
           by_cases e:u=v
           . subst e;exact q
           . rw [r e]at c;exact H b u x c
         . rw [k]at c
           rw [n]
           by_cases e:u=v
           . subst e;rw [q]at c;cases c
           . rw [r e];have:=H (!b) u x c;rwa [n]at this
       . have B:σ.meet≠v:=fun e=>by
          obtain⟨x,y,_,g,_⟩:=d b
          rw [e,q]at g;cases g
         refine .inr (j (P:=fun i=> ∃x y,(eC σ.sd b (eh pi (σ.sd b) b v lab p) i).L σ.meet=some x/\(eC σ.sd b (eh pi (σ.sd b) b v lab p) (!i)).L σ.meet=some y/\σ.dist=x+y) ?_ ?_)
         . obtain⟨x,y,o,g,t⟩:=d b
           exact⟨x,y,by rw [r B];exact o,by rw [k];exact g,t⟩
         . obtain⟨x,y,o,g,t⟩:=d (!b)
           rw [n]at g
           exact⟨x,y,by rw [k];exact o,by rw [n,r B];exact g,t⟩
     . refine j (P:=fun i=> ∀u x y,(eC σ.sd b (eh pi (σ.sd b) b v lab p) i).L u=some x->(eC σ.sd b (eh pi (σ.sd b) b v lab p) (!i)).L u=some y->σ.dist<=x+y) (fun u x y c f=>?_) (fun u x y c f=>?_)
       . rw [k]at f
         by_cases e:u=v
         . subst e;rw [q]at f;cases f
         . rw [r e]at c;exact h.le b u x y c f
       . rw [k]at c
         rw [n]at f
         by_cases e:u=v
         . subst e;rw [q]at c;cases c
         . rw [r e]at f;exact h.le (!b) u x y c (by rw [n];exact f)
   | some m =>
     have Z:=z q
     have L: ∀{i:Bool} {u x y:Nat},(eC σ.sd b (eh pi (σ.sd b) b v lab p) i).L u=some x->(eC σ.sd b (eh pi (σ.sd b) b v lab p) (!i)).L u=some y->(u=v/\x+y=lab+m)\/(u≠v/\σ.dist<=x+y):=fun {i u x y} c f=>by
      by_cases e:u=v
      . subst e
        refine .inl ⟨rfl,?_⟩
        by_cases C:i=b
        . subst C;rw [F]at c;rw [k,q]at f;cases c;cases f;rfl
        . rw [q8 C]at c f
          rw [k,q]at c;rw [n,F]at f;cases c;cases f;exact Nat.add_comm _ _
      . refine .inr ⟨e,?_⟩
        by_cases C:i=b
        . subst C;rw [r e]at c;rw [k]at f;exact h.le i u x y c f
        . rw [q8 C]at c f
          rw [k]at c;rw [n,r e]at f
          exact h.le (!b) u x y c (by rw [n];exact f)
     unfold om
     simp only []
     split
     . rename_i hlt
       refine⟨w,.inr (j (P:=fun i=> ∃x y,(eC σ.sd b (eh pi (σ.sd b) b v lab p) i).L v=some x/\(eC σ.sd b (eh pi (σ.sd b) b v lab p) (!i)).L v=some y/\lab+m=x+y) ⟨lab,m,F,by rw [k];exact q,rfl⟩ ⟨m,lab,by rw [k];exact q,by rw [n];exact F,Nat.add_comm _ _⟩),fun i u x y c f=>?_⟩
       have hlt:lab+m<σ.dist:=hlt
       show lab+m<=x+y
       rcases L c f with⟨_,h⟩|⟨_,h⟩<;>omega
     . rename_i D
       have D: ¬lab+m<σ.dist:=D
       have E: ∀x,(σ.sd b).L v=some x->lab<x:=fun x c=>by
        rw [c]at hle
        simp only [leO,decide_eq_true_eq]at hle
        omega
       refine⟨w,?_,fun i u x y c f=>?_⟩
       . rcases h.dm with⟨K,H⟩|d
         . omega
         . have B:σ.meet≠v:=fun e=>by
            obtain⟨x,y,o,g,t⟩:=d b
            rw [e]at o g
            rw [q]at g;cases g
            have:=E x o
            omega
           refine .inr (j (P:=fun i=> ∃x y,(eC σ.sd b (eh pi (σ.sd b) b v lab p) i).L σ.meet=some x/\(eC σ.sd b (eh pi (σ.sd b) b v lab p) (!i)).L σ.meet=some y/\σ.dist=x+y) ?_ ?_)
           . obtain⟨x,y,o,g,t⟩:=d b
             exact⟨x,y,by rw [r B];exact o,by rw [k];exact g,t⟩
           . obtain⟨x,y,o,g,t⟩:=d (!b)
             rw [n]at g
             exact⟨x,y,by rw [k];exact o,by rw [n,r B];exact g,t⟩
       . show σ.dist<=x+y
         rcases L c f with⟨_,h⟩|⟨_,h⟩<;>omega
end
end Go.Ab

end
section
namespace Go.Ab
open Go.Proofs
set_option maxRecDepth 10000

end Go.Ab
end
section
namespace Go.Ab
open Go.Proofs
set_option maxRecDepth 10000
structure Sx where
 b:Nat
 p:Nat
 ml:Nat
 ma:Nat
 mc:Nat
 vA:Value
 vH:Value
 el:List (Value×Value×Nat)
 cl:Nat
 ea:List (Value×Value×Nat)
 ca:Nat
 ec:List (Value×Value×Nat)
 cc:Nat
def ownN(i:Bool):Nat:=if i then 1 else 0
def signI(i:Bool):Int:=if i then-1 else 1
def Sx.row(x:Sx)(i:Bool):List Value:=[ptrTo x.p,.int .i64 (ownN i:Nat),.int .i64 (signI i),x.vA,x.vH,.map (some x.ml),.map (some x.ma),.map (some x.mc)]
def Sx.L(x:Sx)(i:Bool):List (Nat×Ob):=[(x.b,.row (x.row i) 1),(x.ml,.map x.el x.cl),(x.ma,.map x.ea x.ca),(x.mc,.map x.ec x.cc)]
structure Sx.Ok(x:Sx)(s:Sd):Prop where
 ml: ∃f,cP x.el x.cl f/\ ∀v:Nat,f v=(s.L v).map fun(l:Nat)=>Value.int .i64 l
 ma: ∃f,cP x.ea x.ca f/\ ∀v:Nat,(s.L v).isSome=true->f v=some (.int .i64 (byI (s.P v)))
 mc: ∃f,cP x.ec x.cc f/\ ∀v:Nat,f v=if v∈s.O then some (.int .i64 1)else none
def gO(e:Ev2):List Value:=[.int .i64 (e.kind:Nat),.int .i64 (ownN e.side:Nat),.int .i64 (e.id:Nat),.int .i64 (e.lab:Nat)]
def boRow(pn:Value)(s t:Nat)(vPi:Value)(X:Bool->Sx)(vE:Value)(σ:Bi):List Value:=[pn,.int .i64 (s:Nat),.int .i64 (t:Nat),.slice none 0 0,vPi,ptrTo (X false).b,ptrTo (X true).b,.int .i64 (σ.dist:Nat),.slice none 0 0,vE,.int .i64 (σ.meet:Nat)]
def boL(i:Bool)(br:Nat)(pn:Value)(s t:Nat)(vPi:Value)(X:Bool->Sx)(vE:Value)(σ:Bi):List (Nat×Ob):=(br,.row (boRow pn s t vPi X vE σ) 1)::((X i).L i++(X (!i)).L (!i))
def boG(vE:Value)(σ:Bi):List GL:=[(vE,4,σ.ev.flatMap gO)]
structure iT(h:Hp)(br:Nat)(pn:Value)(s t:Nat)(vPi:Value)(X:Bool->Sx)(F:Bool->List Nat)(vE:Value)(N:Nat)(σ:Bi):Prop where
 own: ∀q∈boL false br pn s t vPi X vE σ,Has h q.1 q.2
 ev:dz h (vE,4,σ.ev.flatMap gO)
 nd:(keys (boL false br pn s t vPi X vE σ) (boG vE σ)).Nodup
 heap: ∀i,cF h (F i) (ptrTo (X i).p) N (σ.sd i).K
 ok: ∀i,(X i).Ok (σ.sd i)
 apart: ∀i,∀c∈F i,c∉keys (boL false br pn s t vPi X vE σ) (boG vE σ)/\c∉F (!i)
def boB(br:Nat)(pn:Value)(s t:Nat)(vPi:Value)(X:Bool->Sx)(F:Bool->List Nat)(vE:Value)(σ:Bi):List Nat:=keys (boL false br pn s t vPi X vE σ) (boG vE σ)++(F false++F true)
section
variable{h h':Hp}{br:Nat}{pn:Value}{s t:Nat}{vPi:Value}{X:Bool->Sx}{F:Bool->List Nat}{vE:Value}{N:Nat}{σ:Bi}
theorem rz(i:Bool):List.Perm (boL i br pn s t vPi X vE σ) (boL false br pn s t vPi X vE σ):=by
 cases i with
 |false=>exact List.Perm.refl _
 |true=>exact List.Perm.cons _ List.perm_append_comm
theorem boB_heap{i:Bool}{c:Nat}(a:c∈F i):c∈boB br pn s t vPi X F vE σ:=zQ _ (by cases i;exact zn _ a;exact zQ _ a)
theorem iT.mo{M:Nat->Prop}(a:iT h br pn s t vPi X F vE N σ)(g:Mo M h h')(d: ∀b∈boB br pn s t vPi X F vE σ,¬M b):iT h' br pn s t vPi X F vE N σ:=
 ⟨fun q e=>g.has (a.own q e) (d _ (zn _ (gW e))),
  a.ev.of_get fun b c=>g.get b (a.ev.lt g.ok0 c) (d b (zn _ (eQ (p:=(vE,4,σ.ev.flatMap gO)) m0 c))),a.nd,
  fun i=>(a.heap i).mo g (fun b c=>d b (boB_heap c)),a.ok,a.apart⟩
theorem iT.gr(a:iT h br pn s t vPi X F vE N σ)(g:Gr h h'):iT h' br pn s t vPi X F vE N σ:=a.mo (M:=NoM) g.fr (fun _ _ h=>h)
theorem iT.st(a:iT h br pn s t vPi X F vE N σ)(d:h.t.Sized h.n)(i:Bool):St (· ∈boB br pn s t vPi X F vE σ) h h (boL i br pn s t vPi X vE σ) (boG vE σ):=by
 have S:St (· ∈boB br pn s t vPi X F vE σ) h h (boL false br pn s t vPi X vE σ) (boG vE σ):=
  ⟨Mo.refl d,fun p c=>⟨.inr (zn _ (gW c)),a.own p c⟩,fun p c=>by
   simp only [boG,List.mem_singleton]at c
   subst c
   exact⟨a.ev,fun b e=>.inr (zn _ (eQ (p:=(vE,4,σ.ev.flatMap gO)) m0 e))⟩,a.nd⟩
 exact S.permL (rz i)
theorem iT.of{M:Nat->Prop}{h0:Hp}(i:Bool)(S:St M h0 h (boL i br pn s t vPi X vE σ) (boG vE σ))(e: ∀i,cF h (F i) (ptrTo (X i).p) N (σ.sd i).K)(f: ∀i,(X i).Ok (σ.sd i))(a: ∀j,∀c∈F j,c∉keys (boL i br pn s t vPi X vE σ) (boG vE σ)/\c∉F (!j)):iT h br pn s t vPi X F vE N σ:=by
 have T:=S.permL (rz (br:=br) (pn:=pn) (s:=s) (t:=t) (vPi:=vPi) (X:=X) (vE:=vE) (σ:=σ) i).symm
 refine⟨fun q g=>(T.own q g).2,(T.gown _ m0).1,T.apart,e,f,fun j c b=>⟨fun d=>(a j c b).1 ?_,(a j c b).2⟩⟩
 unfold keys at d⊢
 rcases List.mem_append.1 d with h|h
 . exact zn _ (((rz i).map _).mem_iff.2 h)
 . exact zQ _ h
theorem iT.rows(a:iT h br pn s t vPi X F vE N σ):Row h br (boRow pn s t vPi X vE σ) 1/\ ∀i,Row h (X i).b ((X i).row i) 1:=by
 refine⟨a.own (br,.row _ 1) (by simp [boL]),fun i=>?_⟩
 cases i
 . exact a.own ((X false).b,.row _ 1) (by simp [boL,Sx.L])
 . exact a.own ((X true).b,.row _ 1) (by simp [boL,Sx.L])
end
end Go.Ab

end
section
namespace Go.Ab
open Go.Proofs
set_option maxRecDepth 10000
def Tryz.Fj:=aj t1<|aj t2<|aj t3<|aj t4<|aj Z0<|aj t32<|aj Z7<|aj t189<|aj Z3<|t218
theorem note_ins{ρ:Operand->Value}{b:Bool}{t:TypeId}{m k v:Operand}{h a:Hp}:bM ρ b (.insert t m k v) h a=(match ρ m with| .map (some r)=>some (.blk r)|_=>none):=by
 simp only [bM,cQ,g8,dI,touch,cond_false]
 cases ρ m<;>(try rfl)
 next r=>cases r<;>rfl
theorem note_mk{ρ:Operand->Value}{b:Bool}{t:TypeId}{h a:Hp}:bM ρ b (.makeMap t none) h a=none:=rfl
def OkEv(N M:Nat)(e:Ev2):Prop:=(e.kind=0/\e.id<N)\/(e.kind=1/\e.id<M/\e.lab=0)
theorem trm1_ok{h0:Hp}(s:h0.t.Sized h0.n){u G l:Nat}{f:Gra}(c:cE h0 G (ptrTo u) f)(m:h0.load l 0 1=some [ptrTo u]){e:Ev2}(v:OkEv f.nodes f.arcs.length e):aW zl 156 [.agg ⟨gO e⟩,ptrTo l] h0 (.bool true):=by
 have S:=Si s
 obtain⟨w,y,id,H⟩:=e
 have I:=bw s m
 unfold gO
 simp only []
 refine ag (n:=43) (rs:=[.tmp 3]) rfl Tryz.e156 rfl rfl rfl (lbt rfl) ?_
 simp only [BS,Nat.reduceLT]
 refine am (bE (by intro x e;cases e)) S ?_;clear S;intro h a S z;simp only [ah]at S
 simp only [BS]
 have K:=zp I S.gr.n
 refine fork_step (nf (ord:=[1,2,4,5,8,9,0,3,6,7,10,11]) rfl rfl (by simp only [dv,reix,dT,List.getElem?_cons_zero,List.getElem?_cons_succ,List.map_toArray,zH,zJ,Nat.reduceBEq,cond_true,cond_false];exact rfl)) (t:=5) (q:=74) (ps:=[(5,8),(5,7),(2,7),(3,5),(1,5),(1,2),(5,8),(5,7),(3,5),(1,5),(1,2)]) (by kernel_rfl) (by kernel_rfl) ?_
 simp only [BS,LB,cls,Nat.reduceLT,Nat.reduceEqDiff,Nat.reducePow,Nat.reduceDiv,Nat.reduceMod,Nat.reduceLeDiff,Fj,S.gr.load m]
 refine nK (dN (h0:={h with lo:=h.n}) S.ok ((c.gr S.gr).keep S.ok (fun _ _=>rfl))) ?_;intro h g;replace S:=S.call g;clear g
 simp only [BS,LB,cls,Nat.reduceLT,Nat.reduceEqDiff,Nat.reduceAdd,Nat.reducePow,Nat.reduceDiv,Nat.reduceMod,Nat.reduceLeDiff,Fj,S.gr.load m]
 refine nK (sO (h0:={h with lo:=h.n}) S.ok ((c.gr S.gr).keep S.ok (fun _ _=>rfl))) ?_;intro h g;replace S:=S.call g;clear g
 simp only [BS,LB,cls,Nat.reduceLT,Nat.reduceEqDiff,Nat.reduceAdd,Nat.reducePow,Nat.reduceDiv,Nat.reduceMod,Nat.reduceLeDiff,Fj,S.ld (b:=a) (o:=0) m0 rfl]
 have L:=(S.row (b:=a) m0).lt S.ok
 have M:l<h.n:=bw S.ok (S.gr.load m)
 refine dw qn S ?_;clear S;intro h j S A B
 simp only [BS,LB,cls,Nat.reduceEqDiff,Nat.reduceAdd,Nat.reducePow,Nat.reduceDiv,Nat.reduceMod,Nat.reduceLeDiff]
 refine cU (S.mput (i:=0) rfl Tryz.t218.1 (by simp only [aM,Tryz.t3.1];rfl) rfl) ?_
 clear S;rintro h S
 simp only [BS,LB,cls,Nat.reduceEqDiff,Nat.reduceAdd,Nat.reducePow,Nat.reduceDiv,Nat.reduceMod,Nat.reduceLeDiff]
 simp only [LC,zR]at S
 refine cU (S.mput (i:=0) rfl Tryz.t218.1 (by simp only [aM,Tryz.t3.1];rfl) rfl) ?_
 clear S;rintro h S
 simp only [LC,Nat.reduceAdd]at S
 have C:h.get j=some (.map _ 2):=(S.own _ zw).2
 have J:bU zl h 218 (.map (some j)) (.int .i64 (w:Nat)) false=some (.int .i64 (if w=0 then f.nodes else f.arcs.length)):=by
  simp only [bU,Tryz.t218.1,nN Tryz.t3.1,cond_true,C]
  rcases v with⟨d,_⟩|⟨d,_⟩
  . simp only []at d;subst d;rfl
  . simp only []at d;subst d;rfl
 have D:l≠j:=by omega
 have E:a≠j:=by omega
 simp only [BS,LB,cls,Nat.reduceLT,Nat.reduceEqDiff,Nat.reduceAdd,Nat.reducePow,Nat.reduceDiv,Nat.reduceMod,Nat.reduceLeDiff,J]
 refine⟨by simp only [bH,bN,a8,bP,bz,ne_eq,not_false_eq_true,bZ,cv,bV,bG,cy,dl,aQ,Nat.reduceLT,Nat.reduceEqDiff,reduceIte,zN,ao,cC,uu,note_ins,note_mk,jx,ez D,ez D.symm,ez E,ez E.symm];rfl,?_⟩
 refine run_kill (b:=j) (by simp only [cy,aQ,Nat.reduceLT,Nat.reduceEqDiff,reduceIte]) C ?_
 replace S:=S.dead
 have p:(0:Int)<=(id:Int):=by omega
 rcases v with⟨d,r⟩|⟨d,r,F⟩
 . simp only []at d r
   subst d
   have k:(id:Int)<(f.nodes:Int):=by omega
   cases y
   . simp only [BS,LB,ae,Nat.reduceLT,Nat.reduceEqDiff,zx,Bool.false_eq_true,Fj,p,k,ownN,S.ld (b:=a) (o:=0) m0 rfl,S.ld (b:=a) (o:=1) m0 rfl,S.ld (b:=a) (o:=2) m0 rfl,S.ld (b:=a) (o:=3) m0 rfl]
     exact S.gr
   . simp only [BS,LB,ae,Nat.reduceLT,Nat.reduceEqDiff,zx,Fj,p,k,ownN,(by decide: ¬(1:Int)=0),S.ld (b:=a) (o:=0) m0 rfl,S.ld (b:=a) (o:=1) m0 rfl,S.ld (b:=a) (o:=2) m0 rfl,S.ld (b:=a) (o:=3) m0 rfl]
     exact S.gr
 . simp only []at d r F
   subst d F
   have k:(id:Int)<(f.arcs.length:Int):=by omega
   cases y
   . simp only [BS,LB,ae,Nat.reduceLT,Nat.reduceEqDiff,zx,Bool.false_eq_true,Fj,p,k,ownN,(by decide: ¬(1:Int)=0),S.ld (b:=a) (o:=0) m0 rfl,S.ld (b:=a) (o:=1) m0 rfl,S.ld (b:=a) (o:=2) m0 rfl,S.ld (b:=a) (o:=3) m0 rfl]
     exact S.gr
   . simp only [BS,LB,ae,Nat.reduceLT,Nat.reduceEqDiff,zx,Fj,p,k,ownN,(by decide: ¬(1:Int)=0),S.ld (b:=a) (o:=0) m0 rfl,S.ld (b:=a) (o:=1) m0 rfl,S.ld (b:=a) (o:=2) m0 rfl,S.ld (b:=a) (o:=3) m0 rfl]
     exact S.gr

theorem cF.lo{h:Hp}{F:List Nat}{p:Value}{N x:Nat}{K:Nat->Option Int}(a:cF h F p N K):cF {h with lo:=x} F p N K:=by
 obtain⟨c,d,l,e,f,g,i,j⟩:=a.ex
 exact⟨⟨c,d,l,e,f,g,i,j.imp (fun h=>h) (fun⟨m,b,e,k⟩=>⟨m,b,e,⟨k.row,k.ex,k.ne⟩⟩)⟩⟩

structure BkAt(h:Hp)(br:Nat)(pn:Value)(m:Nat)(i:Bool)(x:Sx)(s:Sd):Prop where
 l0:h.load br 0 1=some [pn]
 l10:h.load br 10 1=some [.int .i64 (m:Nat)]
 row:Row h x.b (x.row i) 1
 map:h.get x.ma=some (.map x.ea x.ca)
 ok:x.Ok s
theorem BkAt.gr{h b:Hp}{br:Nat}{pn:Value}{m:Nat}{i:Bool}{x:Sx}{s:Sd}(a:BkAt h br pn m i x s)(g:Gr h b):BkAt b br pn m i x s:=⟨g.load a.l0,g.load a.l10,a.row.gr g,g.at a.map,a.ok⟩
theorem iT.bk{h:Hp}{br:Nat}{pn:Value}{s t:Nat}{vPi:Value}{X:Bool->Sx}{F:Bool->List Nat}{vE:Value}{N:Nat}{σ:Bi}(a:iT h br pn s t vPi X F vE N σ)(i:Bool):BkAt h br pn σ.meet i (X i) (σ.sd i):=by
 obtain⟨R,b⟩:=a.rows
 refine⟨R.load1 (o:=0) rfl,R.load1 (o:=10) rfl,b i,?_,a.ok i⟩
 have c:Has h (X i).ma (.map (X i).ea (X i).ca):=by
  cases i
  . exact a.own ((X false).ma,.map _ _) (by simp [boL,Sx.L])
  . exact a.own ((X true).ma,.map _ _) (by simp [boL,Sx.L])
 exact c
end Go.Ab
end
section
namespace Go.Ab
section
variable{A:List Arc}{N:Nat}{al:Nat->Bool}{pi:Nat->Int}{σ:Bi}{rt:Bool->Nat}
structure KeB(b:Bool)(σ τ:Bi):Prop where
 O:(τ.sd b).O=(σ.sd b).O
 L: ∀v∈(σ.sd b).O,(τ.sd b).L v=(σ.sd b).L v/\(τ.sd b).P v=(σ.sd b).P v
 ot:τ.sd (!b)=σ.sd (!b)
theorem KeB.refl{b:Bool}:KeB b σ σ:=⟨rfl,fun _ _=>⟨rfl,rfl⟩,rfl⟩
theorem KeB.trans{b:Bool}{c d:Bi}(h:KeB b σ c)(g:KeB b c d):KeB b σ d:=
 ⟨g.O.trans h.O,fun v a=>⟨(g.L v (h.O▸a)).1.trans (h.L v a).1,(g.L v (h.O▸a)).2.trans (h.L v a).2⟩,g.ot.trans h.ot⟩
theorem uy{b:Bool}{v lab:Nat}{p:List Nat}:KeB b σ (g9 pi b σ v lab p):=by
 unfold g9
 split
 . exact .refl
 . rename_i a
   simp only [not_or,Decidable.not_not]at a
   refine⟨?_,fun u c=>?_,?_⟩
   . rw [mP.1]
     show(eC σ.sd b _ b).O=_
     rw [iJ];rfl
   . rw [mP.1]
     show(eC σ.sd b _ b).L u=_/\(eC σ.sd b _ b).P u=_
     rw [iJ]
     have e:u≠v:=fun e=>a.1 (e▸c)
     exact⟨if_neg e,if_neg e⟩
   . rw [mP.1]
     exact wO
theorem evB_I{e:Ev2}(h:BiI A N rt al pi σ):BiI A N rt al pi (evB σ e):=⟨h.sv,h.dm,h.le⟩
def qH(σ:Bi)(b:Bool)(v m:Nat):Prop:=v∈(σ.sd b).O/\(σ.sd b).L v=some m/\m+co<=(σ.sd b).O.length*co/\((σ.sd b).P v).length+1<=(σ.sd b).O.length
theorem qH.ke{b:Bool}{c:Bi}{v m:Nat}(r:qH σ b v m)(k:KeB b σ c):qH c b v m:=by
 obtain⟨a,d,e,f⟩:=r
 exact⟨by rw [k.O];exact a,by rw [(k.L v a).1];exact d,by rw [k.O];exact e,by rw [k.O,(k.L v a).2];exact f⟩
theorem scan1B_I{b:Bool}{v m a:Nat}(k:N<=12)(l: ∀a∈A,a.s<N/\a.t<N/\a.w<=co)(h:BiI A N rt al pi σ)(r:qH σ b v m)(d:a<A.length)(e:fsB b (A.getD a default)=v):
 BiI A N rt al pi (jy A al pi b v σ a)/\KeB b σ (jy A al pi b v σ a):=by
 unfold jy
 split
 . rename_i f
   obtain⟨n,j,s,o⟩:=r
   have q:A.getD a default∈A:=by rw [zj,zk d];exact zD d
   obtain⟨t,u,w⟩:=l _ q
   have c:labB σ b v=m:=by unfold labB;rw [j];rfl
   have g:ftB b (A.getD a default)<N:=by unfold ftB;split<;>assumption
   have i:=uy (pi:=pi) (σ:=evB σ ⟨1,b,a,0⟩) (b:=b) (v:=ftB b (A.getD a default)) (lab:=labB σ b v+(A.getD a default).w) (p:=a::(σ.sd b).P v)
   refine⟨(evB_I h).reach k g ?_ ?_ (.inr ⟨a,m,d,f,rfl,?_,?_,?_,?_⟩),⟨i.O,i.L,i.ot⟩⟩
   . show labB σ b v+_<=(σ.sd b).O.length*co
     omega
   . show((σ.sd b).P v).length+1<=(σ.sd b).O.length
     exact o
   . rw [e];exact n
   . rw [e];rfl
   . rw [e];exact j
   . rw [c]
 . exact⟨h,.refl⟩
def InB(A:List Arc)(al:Nat->Bool)(pi:Nat->Int)(a:Nat):Prop:=al a=true/\OpB pi (A.getD a default).s/\OpB pi (A.getD a default).t
instance (a:Nat):Decidable (InB A al pi a):=by unfold InB;infer_instance
def hB(A:List Arc)(al:Nat->Bool)(pi:Nat->Int)(b:Bool):List Arc:=((List.range A.length).filter fun a=>decide (InB A al pi a)).map fun a=>⟨fsB b (A.getD a default),ftB b (A.getD a default),(A.getD a default).w⟩
theorem mem_hB{b:Bool}{a:Arc}:a∈hB A al pi b↔ ∃i,i<A.length/\InB A al pi i/\(⟨fsB b (A.getD i default),ftB b (A.getD i default),(A.getD i default).w⟩:Arc)=a:=by
 unfold hB
 simp only [List.mem_map,List.mem_filter,List.mem_range,decide_eq_true_eq]
 constructor
 . rintro⟨i,⟨c,d⟩,e⟩;exact⟨i,c,d,e⟩
 . rintro⟨i,c,d,e⟩;exact⟨i,⟨c,d⟩,e⟩
def FeasB(A:List Arc)(al:Nat->Bool)(pi:Nat->Int):Prop:= ∀i,i<A.length->InB A al pi i->pi (A.getD i default).s<=2*(A.getD i default).w+pi (A.getD i default).t
theorem FeasB.q(h:FeasB A al pi){i:Nat}(a:i<A.length)(c:InB A al pi i)(b:Bool):qB pi b (fsB b (A.getD i default))<=2*(A.getD i default).w+qB pi b (ftB b (A.getD i default)):=by
 have:=h i a c
 cases b
 . exact this
 . show-pi (A.getD i default).t<=2*((A.getD i default).w:Int)+ -pi (A.getD i default).s
   omega
structure FeB(A:List Arc)(r:Nat)(al:Nat->Bool)(pi:Nat->Int)(b:Bool)(x:Sd)(ex:Nat->Prop):Prop where
 opt: ∀v∈x.O,∀l w,x.L v=some l->Wk (hB A al pi b) r v w->l<=w
 fr: ∀a,a<A.length->InB A al pi a->fsB b (A.getD a default)∈x.O-> ¬ex a-> ∃l m,x.L (fsB b (A.getD a default))=some m/\x.L (ftB b (A.getD a default))=some l/\l<=m+(A.getD a default).w
 st:x.L r=some 0
theorem SvB.wk{r:Nat}{b:Bool}{x:Sd}(h:SvB A N r al pi b x): ∀(n:Nat) {v l:Nat},(x.P v).length<=n->x.L v=some l->Wk (hB A al pi b) r v l:=by
 intro n
 induction n with
 | zero=>
   intro v l c d
   rcases h.path v l d with⟨rfl,_,rfl⟩|⟨a,m,_,_,_,_,e,_⟩
   . exact .nil
   . rw [e]at c;simp at c
 | succ n k=>
   intro v l c d
   rcases h.path v l d with⟨rfl,_,rfl⟩|⟨a,m,o,p,g,u,e,i,q⟩
   . exact .nil
   . rw [e]at c
     have s:=k (v:=fsB b (A.getD a default)) (l:=m) (by rw [zF]at c;omega) i
     have j:=(h.lab _ _ d).2.1
     have t:=(h.lab _ _ i).2.1
     have f:InB A al pi a:=by
      refine⟨p,?_,?_⟩<;>cases b<;>first|exact t|(rw [<-g]at j;exact j)
     exact s.snoc' (mem_hB.2 ⟨a,o,f,rfl⟩) rfl g q
theorem FeB.front{r:Nat}{b:Bool}{x:Sd}(f:FeB A r al pi b x (fun _=>False))(h:SvB A N r al pi b x)(u:FeasB A al pi){v w:Nat}(k:Wk (hB A al pi b) r v w):
 (v∈x.O/\ ∃l,x.L v=some l/\l<=w)\/ ∃y j,x.K y=some j/\j<=2*(w:Int)+qB pi b v:=by
 induction k with
 | nil =>
   rcases(h.lab r 0 f.st).2.2.2.2 with c|c
   . exact .inl ⟨c,0,f.st,zu _⟩
   . cases d:x.K r with
     |none=>exact absurd d c
     | some j=>
       obtain⟨_,l,g,z⟩:=h.op r j d
       rw [f.st]at g;cases g
       exact .inr ⟨r,j,d,by omega⟩
 | @snoc w a B G C=>
   obtain⟨i,q,n,rfl⟩:=mem_hB.1 B
   have H:=u.q q n b
   rcases C with⟨D,E,p,hle⟩|⟨y,j,c,s⟩
   . obtain⟨l,m,t,g,F⟩:=f.fr i q n D (fun h=>h)
     have e:m=E:=by rw [show x.L (fsB b (A.getD i default))=_ from p]at t;cases t;rfl
     subst e
     rcases(h.lab _ l g).2.2.2.2 with c|c
     . exact .inl ⟨c,l,g,by show l<=w+(A.getD i default).w;omega⟩
     . cases d:x.K (ftB b (A.getD i default))with
       |none=>exact absurd d c
       | some j=>
         obtain⟨_,I,o,z⟩:=h.op _ j d
         rw [g]at o;cases o
         refine .inr ⟨_,j,d,?_⟩
         show j<=2*((w+(A.getD i default).w:Nat):Int)+qB pi b (ftB b (A.getD i default))
         omega
   . refine .inr ⟨y,j,c,?_⟩
     have s:j<=2*(w:Int)+qB pi b (fsB b (A.getD i default)):=s
     show j<=2*((w+(A.getD i default).w:Nat):Int)+qB pi b (ftB b (A.getD i default))
     omega
theorem FeB.key{r:Nat}{b:Bool}{x:Sd}(f:FeB A r al pi b x (fun _=>False))(h:SvB A N r al pi b x)(c:FeasB A al pi){v:Nat}{k:Int}(d:Pops x.K v k){u w:Nat}(e:u∉x.O)(g:Wk (hB A al pi b) r u w):k<=2*(w:Int)+qB pi b u:=by
 rcases f.front h c g with a|⟨y,j,a,i⟩
 . exact absurd a.1 e
 . have:=d.2 y j a
   omega
end
end Go.Ab

end
section
namespace Go.Ab
inductive jG(A:List Arc)(s:Nat):List Nat->Nat->Nat->Prop where
 |nil:jG A s [] s 0
 |snoc {l:List Nat} {w a:Nat}:jG A s l (A.getD a default).s w->a<A.length->jG A s (l++[a]) (A.getD a default).t (w+(A.getD a default).w)
def iV(A:List Arc)(s:Nat)(l:List Nat)(i:Nat):Nat:=if i=0 then s else(A.getD (l.getD (i-1) 0) default).t
def sumA(A:List Arc)(l:List Nat)(k:Nat):Nat:=((l.take k).map fun a=>(A.getD a default).w).sum
theorem qX{l:List Nat}{a i:Nat}(h:i<l.length):(l++[a]).getD i 0=l.getD i 0:=by
 rw [zj,zj,zI h]
theorem qW{l:List Nat}{a:Nat}:(l++[a]).getD l.length 0=a:=by simp [zj]
theorem v7{A:List Arc}{s a i:Nat}{l:List Nat}(h:i<=l.length):iV A s (l++[a]) i=iV A s l i:=by
 unfold iV
 split
 . rfl
 . rw [qX (by omega)]
theorem jG.at{A:List Arc}{s t w:Nat}{l:List Nat}(h:jG A s l t w):(∀i,i<l.length->l.getD i 0<A.length/\(A.getD (l.getD i 0) default).s=iV A s l i)/\iV A s l l.length=t/\sumA A l l.length=w:=by
 induction h with
 |nil=>exact⟨fun i c=>absurd c (Nat.not_lt_zero _),rfl,rfl⟩
 | @snoc l w a _ d e=>
   obtain⟨f,g,b⟩:=e
   have j:(l++[a]).length=l.length+1:=by simp
   refine⟨fun i c=>?_,?_,?_⟩
   . rcases Nat.lt_or_ge i l.length with h|h
     . rw [qX h,v7 (Nat.le_of_lt h)];exact f i h
     . have:i=l.length:=by omega
       subst this
       rw [qW,v7 (zu _)]
       exact⟨d,g.symm⟩
   . rw [j]
     unfold iV
     rw [if_neg (by omega),zY,qW]
   . unfold sumA at b⊢
     rw [List.take_length]at b⊢
     rw [zU,List.sum_append,b]
     rfl
theorem sumA_succ{A:List Arc}{l:List Nat}{k:Nat}(h:k<l.length):sumA A l (k+1)=sumA A l k+(A.getD (l.getD k 0) default).w:=by
 have e:l.getD k 0=l[k]:=by rw [zj,zk h];rfl
 unfold sumA
 rw [e,zO h,zU,List.sum_append]
 simp
section
variable{A:List Arc}{N s:Nat}{al:Nat->Bool}{pi:Nat->Int}{σ:SS}
theorem Sv.pathA(h:Sv A N s al pi σ): ∀(n:Nat) {v:Nat},(σ.P v).length<=n->(v∈σ.O\/σ.K v≠none)->jG A s (σ.P v).reverse v (σ.L v):=by
 intro n
 induction n with
 | zero=>
   intro v b c
   rcases h.path v c with⟨rfl,d,e⟩|⟨a,_,_,_,_,f,_⟩
   . rw [d,e];exact .nil
   . rw [f]at b;simp at b
 | succ n g=>
   intro v b c
   rcases h.path v c with⟨rfl,d,e⟩|⟨a,i,_,j,k,f,l⟩
   . rw [d,e];exact .nil
   . rw [f]at b⊢
     rw [l,List.reverse_cons,<-j]
     exact .snoc (g (by rw [zF]at b;omega) (.inl k)) i
theorem ends_path{to:Nat}{r:Fd}(c: ∀a∈A,a.t<N/\a.w<=co)(d:Ends A al pi to σ r):Sv A N s al pi σ->r.dist<FAR->jG A s r.arcs to r.dist:=by
 induction d with
 |none g=>intro _ h;exact absurd h (Nat.lt_irrefl _)
 | @hit σ k b=>intro h _;exact h.pathA _ (zu _) (.inr (by rw [b.1];nofun))
 | @step σ v k r b e _ f=>intro h;exact f (h.next c b.1).1
end
end Go.Ab

end
section
namespace Go.Ab
section
variable{A:List Arc}{N:Nat}{al:Nat->Bool}{pi:Nat->Int}{σ:Bi}{rt:Bool->Nat}
theorem clo_b{b:Bool}{v:Nat}:(closeB σ b v).sd b=⟨dL (σ.sd b).K v none,(σ.sd b).L,(σ.sd b).P,(σ.sd b).O++[v]⟩:=iJ
theorem FeB.close{r b v}{k:Int}(f:FeB A r al pi b (σ.sd b) (fun _=>False))(h:SvB A N r al pi b (σ.sd b))(o:FeasB A al pi)(j:Pops (σ.sd b).K v k):FeB A r al pi b ((closeB σ b v).sd b) (fun a=>fsB b (A.getD a default)=v):=by
 obtain⟨p,m,q,y⟩:=h.op v k j.1
 rw [clo_b]
 refine⟨fun u c l w g n=>?_,fun a s i d t=>?_,f.st⟩
 . rcases List.mem_append.1 c with c|c
   . exact f.opt u c l w g n
   . have e:=List.mem_singleton.1 c
     subst e
     have x:l=m:=by rw [show(σ.sd b).L u=_ from q]at g;cases g;rfl
     subst x
     have:=f.key h o j p n
     omega
 . rcases List.mem_append.1 d with d|d
   . exact f.fr a s i d (fun h=>h)
   . exact absurd (List.mem_singleton.1 d) t
theorem reach_L{b:Bool}{v lab:Nat}{p:List Nat}:(∀u,u≠v->((g9 pi b σ v lab p).sd b).L u=(σ.sd b).L u)/\(v∉(σ.sd b).O->OpB pi v-> ∃l,((g9 pi b σ v lab p).sd b).L v=some l/\l<=lab/\ ∀l',(σ.sd b).L v=some l'->l<=l')/\
 ((((g9 pi b σ v lab p).sd b).L v=(σ.sd b).L v)\/(∀l',(σ.sd b).L v=some l'->lab<l')):=by
 unfold g9
 split
 . rename_i c
   refine⟨fun _ _=>rfl,fun g i=>?_,.inl rfl⟩
   rcases c with h|h|h
   . exact absurd h g
   . exact absurd i h
   . cases d:(σ.sd b).L v with
     |none=>rw [d]at h;cases h
     |some l=>rw [d]at h;exact⟨l,rfl,of_decide_eq_true h,fun l' a=>by cases a;exact zu _⟩
 . rename_i c
   simp only [not_or,Decidable.not_not]at c
   have e:(om ((σ.sd (!b)).L v) ⟨eC σ.sd b (eh pi (σ.sd b) b v lab p),σ.ev,σ.dist,σ.meet⟩ v lab).sd b=eh pi (σ.sd b) b v lab p:=by
    rw [mP.1];exact iJ
   have f: ∀l',(σ.sd b).L v=some l'->lab<l':=fun l' a=>by
    have:=c.2.2
    rw [a]at this
    simp only [leO,decide_eq_true_eq]at this
    omega
   rw [e]
   exact⟨fun u j=>if_neg j,fun _ _=>⟨lab,if_pos rfl,zu _,fun l' a=>Nat.le_of_lt (f l' a)⟩,.inr f⟩
theorem FeB.scan1 {r v m a:Nat} {b:Bool} {O ex':Nat->Prop} (f:FeB A r al pi b (σ.sd b) O) (h:SvB A N r al pi b (σ.sd b)) (U:qH σ b v m) (V:a<A.length) (D:fsB b (A.getD a default)=v) (P: ∀c,¬ex' c-> ¬O c\/c=a):
 FeB A r al pi b ((jy A al pi b v σ a).sd b) ex':=by
 obtain⟨Y,z,_⟩:=U
 have o:labB σ b v=m:=by unfold labB;rw [z];rfl
 unfold jy
 split
 . rename_i q
   have s:(evB σ ⟨1,b,a,0⟩).sd b=σ.sd b:=rfl
   obtain⟨E,F,k⟩:=reach_L (pi:=pi) (σ:=evB σ ⟨1,b,a,0⟩) (b:=b) (v:=ftB b (A.getD a default)) (lab:=labB σ b v+(A.getD a default).w) (p:=a::(σ.sd b).P v)
   have G:=uy (pi:=pi) (σ:=evB σ ⟨1,b,a,0⟩) (b:=b) (v:=ftB b (A.getD a default)) (lab:=labB σ b v+(A.getD a default).w) (p:=a::(σ.sd b).P v)
   generalize g9 pi b (evB σ ⟨1,b,a,0⟩) (ftB b (A.getD a default)) (labB σ b v+(A.getD a default).w) (a::(σ.sd b).P v)=Q at E F k G
   have R:(Q.sd b).O=(σ.sd b).O:=G.O
   have B: ∀u∈(σ.sd b).O,(Q.sd b).L u=(σ.sd b).L u:=fun u t=>(G.L u t).1
   refine⟨fun u t l w n W=>?_,fun c H d x g=>?_,?_⟩
   . rw [R]at t
     rw [B u t]at n
     exact f.opt u t l w n W
   . rw [R]at x
     rw [B _ x]
     rcases P c g with i|e
     . obtain⟨l,I,J,y,S⟩:=f.fr c H d x i
       by_cases e:ftB b (A.getD c default)=ftB b (A.getD a default)
       . by_cases j:ftB b (A.getD a default)∈(σ.sd b).O
         . exact⟨l,I,J,by rw [B _ (e▸j)];exact y,S⟩
         . have C:=(h.lab _ l y).2.1
           rw [e]at C y
           obtain⟨K,L,_,X⟩:=F j C
           have:=X l y
           exact⟨K,I,J,by rw [e];exact L,by omega⟩
       . exact⟨l,I,J,by rw [E _ e];exact y,S⟩
     . subst e
       have C:OpB pi (ftB b (A.getD c default)):=by
        cases b with
        |false=>exact d.2.2
        |true=>exact d.2.1
       by_cases j:ftB b (A.getD c default)∈(σ.sd b).O
       . obtain⟨_,M⟩:=h.lt _ j
         cases n:(σ.sd b).L (ftB b (A.getD c default))with
         |none=>exact absurd n M
         | some l=>
           refine⟨l,m,by rw [D];exact z,by rw [B _ j];exact n,f.opt _ j l _ n ?_⟩
           exact(h.wk _ (zu _) z).snoc' (mem_hB.2 ⟨c,V,d,rfl⟩) D rfl rfl
       . obtain⟨K,L,T,_⟩:=F j C
         exact⟨K,m,by rw [D];exact z,L,by rw [o]at T;exact T⟩
   . by_cases e:r=ftB b (A.getD a default)
     . rcases k with k|k
       . rw [e,k,s,<-e];exact f.st
       . have:=k 0 (by rw [s,<-e];exact f.st)
         omega
     . rw [E r e];exact f.st
 . rename_i q
   refine⟨f.opt,fun c H d x g=>?_,f.st⟩
   rcases P c g with i|e
   . exact f.fr c H d x i
   . subst e;exact absurd d.1 q
theorem FeB.scanL{r v m:Nat}{b:Bool}(j:N<=12)(k: ∀a∈A,a.s<N/\a.t<N/\a.w<=co)(n:r=rt b): ∀(l:List Nat) {σ:Bi},FeB A r al pi b (σ.sd b) (· ∈l)->BiI A N rt al pi σ->qH σ b v m->(∀a∈l,a<A.length/\fsB b (A.getD a default)=v)->
 FeB A r al pi b ((l.foldl (jy A al pi b v) σ).sd b) (fun _=>False)
 | [],_,f,_,_,_=>⟨f.opt,fun a d g q _=>f.fr a d g q (by simp),f.st⟩
 | a::l,σ,f,h,i,o=>by
   obtain⟨d,p⟩:=o a zw
   have s:=FeB.scan1 (ex':=(· ∈l)) f (by rw [n];exact h.sv b) i d p (fun c t=>by
    by_cases e:c=a
    . exact .inr e
    . exact .inl (fun u=>(List.mem_cons.1 u).elim e t))
   obtain⟨w,y⟩:=scan1B_I j k h i d p
   exact FeB.scanL j k n l s w (i.ke y) (fun x z=>o x (zo _ z))
end
end Go.Ab

end
section
namespace Go.Ab
section
variable{A:List Arc}{N s t:Nat}{al:Nat->Bool}{pi:Nat->Int}{σ:Bi}
def EvP(A:List Arc)(a:Bool->Nat)(al:Nat->Bool)(pi:Nat->Int)(l:List Ev2):Prop:= ∀e∈l,e.kind=0->Wk (hB A al pi e.side) (a e.side) e.id e.lab/\ ∀w,Wk (hB A al pi e.side) (a e.side) e.id w->e.lab<=w
theorem reachB_ev{b:Bool}{v lab:Nat}{p:List Nat}:(g9 pi b σ v lab p).ev=σ.ev:=by
 unfold g9
 split
 . rfl
 . exact mP.2
theorem EvP.scan1{f:Bool->Nat}{b:Bool}{v a:Nat}(h:EvP A f al pi σ.ev):EvP A f al pi (jy A al pi b v σ a).ev:=by
 unfold jy
 split
 . rw [reachB_ev]
   intro e c d
   rcases List.mem_append.1 c with c|c
   . exact h e c d
   . rw [List.mem_singleton.1 c]at d;cases d
 . exact h
theorem EvP.scanL{a:Bool->Nat}{b:Bool}{v:Nat}: ∀(l:List Nat) {σ:Bi},EvP A a al pi σ.ev->EvP A a al pi (l.foldl (jy A al pi b v) σ).ev
 | [],_,h=>h
 |_::l,_,h=>EvP.scanL l h.scan1
end
end Go.Ab

end
section
namespace Go.Ab
open Go.Proofs
set_option maxRecDepth 10000
theorem SvB.has{A:List Arc}{N r:Nat}{c:Nat->Bool}{pi:Nat->Int}{i:Bool}{x:Sd}(h:SvB A N r c pi i x){v l:Nat}(a:x.L v=some l)(d:v∉x.O):x.K v=some (2*(l:Int)+qB pi i v):=by
 have f:=((h.lab v l a).2.2.2.2).resolve_left d
 cases b:x.K v with
 |none=>exact absurd b f
 | some k=>
   obtain⟨_,j,e,g⟩:=h.op v k b
   rw [a]at e
   cases e
   rw [g]
theorem iT.lt{h:Hp}(b:h.t.Sized h.n){br:Nat}{pn:Value}{s t:Nat}{vPi:Value}{X:Bool->Sx}{F:Bool->List Nat}{vE:Value}{N:Nat}{σ:Bi}(a:iT h br pn s t vPi X F vE N σ): ∀c∈boB br pn s t vPi X F vE σ,c<h.n:=fun c d=>
 (List.mem_append.1 d).elim (fun h=>(a.st b false).key_lt h) (fun h=>(List.mem_append.1 h).elim (fun h=>(a.heap false).lt b c h) (fun h=>(a.heap true).lt b c h))
def Tryz.Ft:=aj t1<|aj t2<|aj t3<|aj t4<|aj Z7<|aj t149<|aj t151<|t153
def Tryz.FR:=aj t1<|aj t2<|aj t3<|aj t4<|aj t5<|aj t6<|aj Z2<|aj t48<|aj Z7<|t149
def Tryz.Fu:=aj t1<|aj t2<|aj t3<|aj t4<|aj t5<|aj Z0<|aj t32<|aj t48<|aj Z7<|aj t149<|aj t151<|aj t153<|aj t189<|Z3
def j8(e:Ev2):Value:=.agg ⟨[.int .i64 (e.kind:Nat),.int .i64 (ownN e.side:Nat),.int .i64 (e.id:Nat)]⟩
def kY(a b:Ev2):Prop:=a.kind=b.kind/\a.side=b.side/\a.id=b.id
instance (a b:Ev2):Decidable (kY a b):=by unfold kY;infer_instance
theorem nat_ibeq(a b:Nat):fw (a:Int) (b:Int)=decide (a=b):=by
 show Nat.beq a b=_
 rw [a9]
theorem keyEq_e(a b:Ev2):aY (j8 a) (j8 b)=some (decide (kY a b)):=by
 unfold j8 aY
 simp only [cB,dY,cond_true,nat_ibeq]
 have c:decide (ownN a.side=ownN b.side)=decide (a.side=b.side):=by cases a.side<;>cases b.side<;>rfl
 rw [c]
 unfold kY
 by_cases d:a.kind=b.kind<;>by_cases e:a.side=b.side<;>by_cases f:a.id=b.id<;>simp [d,e,f]
def iu:Nat->List Ev2->List (Value×Value×Nat)
 |_,[]=>[]
 |n,e::l=>(j8 e,.int .i64 1,n)::iu (n+1) l
theorem oh{e:Ev2}: ∀{l:List Ev2} {n:Nat},(∀x∈l,¬kY e x)->aJ (j8 e) (iu n l)=some none
 | [],_,_=>rfl
 | x::l,n,h=>by
   unfold iu aJ
   rw [keyEq_e,decide_eq_false (h x zw)]
   exact oh fun y a=>h y (zo _ a)
theorem ui{e:Ev2}: ∀{l:List Ev2} {n:Nat},iu n (l++[e])=iu n l++[(j8 e,.int .i64 1,n+l.length)]
 | [],_=>rfl
 | x::l,n=>by
   show _::iu (n+1) (l++[e])=_::(iu (n+1) l++_)
   rw [ui,zF,show n+1+l.length=n+(l.length+1) by omega]
theorem uS: ∀{l:List Ev2} {n:Nat},∀p∈iu n l,p.2.2<n+l.length
 | x::l,n,p,h=>by
   rcases List.mem_cons.1 h with rfl|h
   . show n<_;rw [zF];omega
   . have:=uS p h;rw [zF];omega
theorem sF{k z w:Value}{c:Nat}: ∀{a:List (Value×Value×Nat)},(∀p∈a,p.2.2<c)->eg c w (a++[(k,z,c)])=some (a++[(k,w,c)])
 | [],_=>by simp [eg,Nat.beq_refl]
 | (k',v',b)::a,h=>by
   have d:=h _ zw
   have e:Nat.beq b c=false:=by rw [a9];exact decide_eq_false (by simp only []at d;omega)
   simp only [List.cons_append,eg,e,cond_false,sF fun p f=>h p (zo _ f)]
theorem St.mentN{M:Nat->Prop}{h0 h:Hp}{L:List (Nat×Ob)}{G:List GL}(S:St M h0 h L G){E:Env}{t kt el:TypeId}{i b c:Nat}{a:List (Value×Value×Nat)}{k z:Value}(e:L[i]? =some (b,.map a c))(g:E.und t=some (.map kt el))(hf:aM E kt k=true)(j:E.zeroV el=some z)(l:aJ k a=some none):
 ∃d,fQ E h t (.map (some b)) k=some (d,.tuple #[z,.int .i64 (Int.ofNat c)])/\St M h0 d (L.set i (b,.map (a++[(k,z,c)]) (c+1))) G/\Mo (· =b) h d:=by
 have f:h.get b=some (.map a c):=(S.own _ (Xf e)).2
 refine⟨h.put b (.map (a++[(k,z,c)]) (c+1)),?_,S.put e ?_,(Mo.refl (M:=(· =b)) S.ok).put (.inr rfl) _⟩
 . simp only [fQ,gc,g,hf,cond_true,f,l,j]
 . exact jE f
theorem build_key{a b c:Int}:jT zl 153 [(0,.int .i64 a),(1,.int .i64 b),(2,.int .i64 c)]=some (.agg ⟨[.int .i64 a,.int .i64 b,.int .i64 c]⟩):=rfl
theorem once1_ok{h0:Hp}(Q:h0.t.Sized h0.n){R nb G b5 b6 a n:Nat}{H:Gra}{l:List Ev2}{e:Ev2}(cN: ∀g,Mo (· =a) h0 g->cE g nb (ptrTo R) H)(T:h0.load G 0 1=some [ptrTo R])(U:h0.load b5 0 1=some [.func (.func 156) #[] #[ptrTo G]])(I:h0.load b6 0 1=some [.map (some a)])
 (V:G≠a) (W:b5≠a) (X:b6≠a) (hm:h0.get a=some (.map (iu 0 l) l.length)) (he:OkEv H.nodes H.arcs.length e) (Y: ∀x∈l,¬kY e x):
 Ret zl 78 [.agg ⟨gO e⟩,ptrTo b6,ptrTo b5] h0 fun r g=>r=.bool false/\Mo (· =a) h0 g/\g.get a=some (.map (iu 0 (l++[e])) (l++[e]).length):=by
 have S:=St.init1 Q (o:=.map (iu 0 l) l.length) hm
 have zm:a<h0.n:=S.key_lt (by simp [keys])
 have z6:=bw Q I
 have c:=oh (n:=0) Y
 have J:aM zl 153 (j8 e)=true:=rfl
 obtain⟨s,t,id,d⟩:=e
 unfold gO
 simp only []
 refine ag (n:=29) (rs:=[.tmp 4]) rfl Tryz.e78 rfl rfl rfl (lbt rfl) ?_
 simp only [BS,Nat.reduceLT]
 refine am (bE (by intro x e;cases e)) S ?_;clear S;intro h D S Z;simp only [ah]at S
 simp only [BS,LB,Nat.reduceLT,Nat.reduceEqDiff,Ft,build_key,S.ld (b:=D) (o:=0) m0 rfl,S.ld (b:=D) (o:=1) m0 rfl,S.ld (b:=D) (o:=2) m0 rfl]
 refine am aF S ?_;clear S;intro h E S aa
 simp only [BS,LB,Nat.reduceLT,Nat.reduceEqDiff]
 refine aH (S.store (i:=0) rfl Tryz.t153.2.2.1 (by intro x e;cases e) rfl rfl (lbt rfl) ono) ?_
 clear S;rintro h ⟨S,mo⟩;clear mo
 simp only [LC,ah,lay,zy,zz,Nat.reduceAdd]at S
 have g1:=S.fr
 have k:=S.old I X
 have u:=S.old U W
 have ac:=S.old T V
 have v:=S.lds (b:=E) (o:=0) (n:=3) m0 (lbt rfl)
 have f:h.get a=some (.map (iu 0 l) l.length):=(S.own _ m2).2
 have m:bU zl h 151 (.map (some a)) (j8 ⟨s,t,id,d⟩) false=some (.int .i64 0):=by
  simp only [bU,Tryz.t151.1,J,cond_true,f,c]
  rfl
 unfold j8 at m c J
 simp only [zz,zy]at v m
 simp only [BS]
 refine aE (aK rfl) (q:=0) (ps:=[]) (by kernel_rfl) ?_
 simp only [BS,LB,cls,Nat.reduceLT,Nat.reduceEqDiff,Nat.reduceAdd,Nat.reducePow,Nat.reduceDiv,Nat.reduceMod,Nat.reduceLeDiff,Int.reduceAdd,Ft,k,v,m]
 obtain⟨h2,e1,S1,_⟩:=S.mentN (i:=2) (z:=.int .i64 0) rfl Tryz.t151.1 J (by kernel_rfl) c
 refine dn_v (P:=fun g v'=>g=h2/\v'=.tuple #[.int .i64 0,.int .i64 (Int.ofNat l.length)]) ⟨h2,_,e1,rfl,rfl⟩ ?_
 rintro g v' ⟨rfl,rfl⟩
 clear S;have S:=S1;clear S1
 simp only [LC]at S
 simp only [BS,LB,cls,Nat.reduceLT,Nat.reduceEqDiff,Nat.reduceAdd,Nat.reducePow,Nat.reduceDiv,Nat.reduceMod,Nat.reduceLeDiff,Int.ofNat_eq_natCast]
 have w1:au .i64 1=1:=rfl
 refine cU (S.mstoreI (i:=2) (w:=.int .i64 1) rfl (sF fun p hp=>by have:=uS p hp;omega)) ?_
 clear S;rintro K ⟨L,S⟩;clear L
 simp only [LC]at S
 simp only [BS,LB,Nat.reduceLT,Nat.reduceEqDiff,Nat.reduceAdd,Ft]
 have q6:b6≠E:=by omega
 have qt:E≠a:=by omega
 have f:K.get a=some (.map (iu 0 l++[(j8 ⟨s,t,id,d⟩,.int .i64 1,l.length)]) (l.length+1)):=(S.own _ m2).2
 have y:bU zl K 151 (.map (some a)) (j8 ⟨s,t,id,d⟩) false=some (.int .i64 1):=by
  have M:aM zl 153 (j8 ⟨s,t,id,d⟩)=true:=rfl
  simp only [bU,Tryz.t151.1,M,cond_true,f]
  rw [mE (by rw [keyEq_e];exact congrArg some (decide_eq_true ⟨rfl,rfl,rfl⟩)) (oh Y)]
  rfl
 unfold j8 at y
 have k:=S.old I X
 have u:=S.old U W
 have A:=S.lds (b:=E) (o:=0) (n:=3) m0 (lbt rfl)
 have B:=S.lds (b:=D) (o:=0) (n:=4) m1 (lbt rfl)
 simp only [zz,zy]at A B
 simp only [BS,LB,Nat.reduceLT,Nat.reduceEqDiff,Ft,u,B]
 refine ar (trm1_ok S.ok (cN _ S.fr) (S.old T V) he) ?_
 intro h4 F
 have C:=F.load k
 have N:=F.load A
 have j:h4.get a=K.get a:=F.get a (zp zm S.fr.n)
 have O:bU zl h4 151 (.map (some a)) (.agg ⟨[.int .i64 (s:Nat),.int .i64 (ownN t:Nat),.int .i64 (id:Nat)]⟩) false=some (.int .i64 1):=by
  rw [<-y]
  simp only [bU,j]
 replace S:=S.call F
 simp only [BS,LB,ae,Nat.reduceLT,Nat.reduceEqDiff,Int.reduceLT,Ft,C,N,O]
 refine⟨S.fr,?_⟩
 rw [j,f,ui,zR,zX]
 rfl
theorem idxE_ok{h0:Hp}{v:Value}{xs:List Ev2}{g:FuncId}{a:Array Value}(s:Fl v)(t:xs.length<1000000)(I:Nat->Hp->Prop)(j: ∀i h,I i h->ax h 4 gO v xs)
 (hf: ∀i h (k:i<xs.length),I i h->Ret zl g ([.agg ⟨gO xs[i]⟩]++a.toList) h fun r f=>r=.bool false/\I (i+1) f) (b:I 0 h0):
 Ret zl 157 [v,.func (.func g) #[] a] h0 fun r f=>r=.int .i64 (-1)/\I xs.length f:=by
 refine ag (n:=19) (rs:=[.tmp 4]) rfl Tryz.e157 rfl rfl rfl (lbt rfl) ?_
 simp only [BS,LB,Nat.reduceLT,Nat.reduceEqDiff,FR,(j 0 h0 b).lenq]
 refine bg (fun(i:Nat) d h=>i<=xs.length/\I i h/\d 0=v/\d 1=.func (.func g) #[] a/\d 7=.int .i64 (xs.length:Nat)/\d 8=.int .i64 i) (fun i=>xs.length-i) ?_ 0 _ _ ?_
 . intro i l d h ⟨k,h1,r0,r1,r7,r8⟩
   have w:au .i64 ((i:Int)+1)=((i+1:Nat):Int):=by rw [wrap64]<;>omega
   by_cases hlt:i<xs.length
   . obtain⟨c,o,m,p⟩:=(j i h h1).ix (kd:=.i64) (fun _=>rfl) hlt
     simp only [BS,LB,Nat.reduceLT,Nat.reduceEqDiff,FR,r0,r1,r7,r8,aI,hlt,m,p]
     refine step_ret (hf i h hlt h1) ?_
     rintro r u ⟨rfl,q⟩
     simp only [BS,LB,Nat.reduceLT,Nat.reduceEqDiff,r8,w]
     exact l (i+1) _ _ (by omega) ⟨by omega,q,by simp [ab,r0],by simp [ab,r1],by simp [ab,r7],by simp [ab]⟩
   . have e:i=xs.length:=by omega
     subst e
     simp only [BS,LB,ae,Nat.reduceLT,Nat.reduceEqDiff,r7,r8,aI,hlt]
     exact h1
 . exact⟨zt _,b,by simp [ab,cC],by simp [ab,cC],by simp [ab],by simp [ab]⟩
theorem uW{h0:Hp}{v:Value}{xs:List Ev2}{g:FuncId}{a:Array Value}(d:Fl v)(e:xs.length<1000000)(I:Nat->Hp->Prop)(f: ∀i h,I i h->ax h 4 gO v xs)
 (hf: ∀i h (k:i<xs.length),I i h->Ret zl g ([.agg ⟨gO xs[i]⟩]++a.toList) h fun r b=>r=.bool false/\I (i+1) b) (c:I 0 h0):
 Ret zl 77 [v,.func (.func g) #[] a] h0 fun r b=>r=.bool false/\I xs.length b:=by
 refine ag (n:=9) (rs:=[.tmp 4]) rfl Tryz.e77 rfl rfl rfl (lbt rfl) ?_
 simp only [BS,LB,Nat.reduceLT,Nat.reduceEqDiff]
 refine step_ret (idxE_ok d e I f hf c) ?_
 rintro r h ⟨rfl,j⟩
 simp only [BS,LB,ae,Nat.reduceLT,Nat.reduceEqDiff,Int.reduceLE]
 exact j
theorem trMay_ok{h0:Hp}(e:h0.t.Sized h0.n){p:Value}(f:Fl p):Ret zl 76 [p] h0 fun r c=>Gr h0 c/\ ∃a,r=.func (.func 156) #[] #[ptrTo a]/\c.load a 0 1=some [p]:=by
 have S:=Si e
 refine ag (n:=4) (rs:=[.tmp 2]) rfl Tryz.e76 rfl rfl rfl (lbt rfl) ?_
 simp only [BS,Nat.reduceLT]
 refine am (dp (by assumption)) S ?_;clear S;intro h a S d
 simp only [BS,LB,ae,Nat.reduceLT,Nat.reduceEqDiff]
 exact⟨S.gr,_,rfl,S.ld (b:=a) (o:=0) m0 rfl⟩
theorem uU{h0:Hp}(C:h0.t.Sized h0.n){q D:Nat}{k:Gra}(c:cE h0 D (ptrTo q) k){v:Value}{xs:List Ev2}(s:ax h0 4 gO v xs)(E:xs.length<1000000)(F: ∀x∈xs,OkEv k.nodes k.arcs.length x)(G:xs.Pairwise fun a b=> ¬kY b a):
 aW zl 23 [ptrTo q,v] h0 (.bool true):=by
 have S:=Si C
 have H:=s.fl
 refine ag (n:=16) (rs:=[.tmp 4]) rfl Tryz.e23 rfl rfl rfl (lbt rfl) ?_
 simp only [BS,LB,Nat.reduceLT,Nat.reduceEqDiff,Fu]
 refine step_ret (trMay_ok S.ok fO) ?_
 rintro r h ⟨g,I,rfl,t⟩
 have d:=g.ok
 clear S
 rename Hp=>hM
 have S:=Si d
 have N:=bw d t
 simp only [BS,Fu]
 refine am aF S ?_;clear S;intro h u S w
 simp only [BS,LB,Nat.reduceLT,Nat.reduceEqDiff]
 refine aH (aC S (i:=0) rfl ?_ ?_ ?_ ono) ?_
 . exact(by simp only [Fu])
 . exact(by exact jV)
 . exact zq (lbt rfl)
 clear S;rintro h ⟨S,l⟩;clear l;simp only [LC,ah,lay,zy,zz,Nat.reduceAdd]at S
 simp only [BS]
 refine am qn S ?_;clear S;intro h y S f
 simp only [BS,Fu]
 refine am aF S ?_;clear S;intro h z S A
 simp only [BS,LB,Nat.reduceLT,Nat.reduceEqDiff]
 refine aH (aC S (i:=0) rfl ?_ ?_ ?_ ono) ?_
 . exact(by simp only [Fu])
 . exact(by exact fl_map)
 . exact zq (lbt rfl)
 clear S;rintro h ⟨S,l⟩;clear l;simp only [LC,ah,lay,zy,zz,Nat.reduceAdd]at S
 simp only [BS,LB,Nat.reduceLT,Nat.reduceEqDiff]
 have J:=S.apart
 simp only [keys,zH,zJ,zZ,Xa,List.nodup_cons,z7,zP,or_false,not_or]at J
 refine step_ret (uW H E (fun i h=>St NoM hM h [(z,.row [.map (some y)] 1),(y,.map (iu 0 (xs.take i)) (xs.take i).length),(u,.row [.func (.func 156) #[] #[ptrTo I]] 1)] []) (fun i h S=>s.gr (g.trans S.gr)) ?_ S) ?_
 . intro i h p S
   refine(once1_ok S.ok (fun B m=>c.gr (g.trans ((S.fr.trans m (fun x e=>.inr (by subst e;exact f)):Mo NoM hM B).gr))) (S.gr.load t) (S.ld (b:=u) (o:=0) m2 rfl) (S.ld (b:=z) (o:=0) m0 rfl) (by omega) (by omega) (by omega) (S.own _ m1).2 (F _ (zD p)) ?_ (n:=0)).mono ?_
   . intro x K
     obtain⟨j,L,rfl⟩:=List.getElem_of_mem K
     rw [zG]at L
     rw [List.getElem_take]
     exact List.pairwise_iff_getElem.1 G j i (by omega) p (by omega)
   . rintro r B ⟨rfl,m,M⟩
     refine⟨rfl,?_⟩
     rw [zO p]
     exact S.call1 (i:=1) (o':=.map _ _) rfl m M
 . rintro r h ⟨rfl,S⟩
   simp only [BS,LB,ae,Nat.reduceLT,Nat.reduceEqDiff]
   exact g.trans S.gr
def qg(L:Bool->Int)(e:Ev2):Bool->Int:=if e.kind=0 then fun s=>if s=e.side then(e.id:Int)else L s else L
def qi(A:List Arc)(xs:List Ev2):Prop:= ∀i,(a:i<xs.length)->xs[i].kind=1->(xs.take i).foldl qg (fun _=> -1) xs[i].side=((fsB xs[i].side (A.getD xs[i].id default):Nat):Int)
end Go.Ab
end
section
namespace Go.Ab
structure EvO(A:List Arc)(N:Nat)(O:Bool->List Nat)(ev:List Ev2):Prop where
 ok: ∀e∈ev,OkEv N A.length e
 nd:ev.Pairwise fun a b=> ¬kY b a
 mem: ∀e∈ev,(if e.kind=0 then e.id else fsB e.side (A.getD e.id default))∈O e.side
 hd:qi A ev
section
variable{A:List Arc}{N:Nat}{O O':Bool->List Nat}{ev:List Ev2}
theorem EvO.nil:EvO A N O []:=⟨by simp,.nil,by simp,fun i a=>by simp at a⟩
theorem heads_app{e:Ev2}(h:qi A ev)(c:e.kind=1->ev.foldl qg (fun _=> -1) e.side=((fsB e.side (A.getD e.id default):Nat):Int)):qi A (ev++[e]):=by
 intro i d a
 rw [zX,List.length_singleton]at d
 by_cases hlt:i<ev.length
 . have b:(ev++[e])[i]=ev[i]:=List.getElem_append_left hlt
   rw [b]at a⊢
   rw [zV (by omega)]
   exact h i hlt a
 . obtain rfl:i=ev.length:=by omega
   have b:(ev++[e])[ev.length]=e:=by simp
   rw [b]at a⊢
   rw [zV (zu _),List.take_length]
   exact c a
theorem EvO.add{e:Ev2}(h:EvO A N O ev)(d:OkEv N A.length e)(f: ∀x∈ev,¬kY e x)(g: ∀i x,x∈O i->x∈O' i)(j:(if e.kind=0 then e.id else fsB e.side (A.getD e.id default))∈O' e.side)
 (k:e.kind=1->ev.foldl qg (fun _=> -1) e.side=((fsB e.side (A.getD e.id default):Nat):Int)):EvO A N O' (ev++[e]):=by
 refine⟨fun x c=>?_,List.pairwise_append.2 ⟨h.nd,List.pairwise_singleton _ _,fun a l b m=>?_⟩,fun x c=>?_,heads_app h.hd k⟩
 . rcases List.mem_append.1 c with c|c
   . exact h.ok x c
   . rw [List.mem_singleton.1 c];exact d
 . rw [List.mem_singleton.1 m];exact f a l
 . rcases List.mem_append.1 c with c|c
   . exact g _ _ (h.mem x c)
   . rw [List.mem_singleton.1 c];exact j
theorem EvO.pop{i:Bool}{v lab:Nat}(h:EvO A N O ev)(d:v<N)(e:v∉O i)(f: ∀i x,x∈O i->x∈O' i)(g:v∈O' i):EvO A N O' (ev++[⟨0,i,v,lab⟩]):=by
 refine h.add (.inl ⟨rfl,d⟩) (fun x j k=>?_) f g (fun h=>by cases h)
 have:=h.mem x j
 obtain⟨a,b,c⟩:=k
 simp only []at a b c
 rw [<-a,<-b,<-c,if_pos rfl]at this
 exact e this
def iq(b:Nat->Bool)(i:Bool)(l:List Nat):List Ev2:=(l.filter b).map fun a=>⟨1,i,a,0⟩
theorem EvO.scan{j:Nat->Bool}{i:Bool}{v:Nat}(o:v∈O i): ∀(l:List Nat) {ev:List Ev2},EvO A N O ev->l.Nodup->(∀a∈l,a<A.length/\fsB i (A.getD a default)=v)->ev.foldl qg (fun _=> -1) i=(v:Int)->
 (∀e∈ev,e.kind=1->e.side=i->e.id∉l)->EvO A N O (ev++iq j i l)
 | [],ev,h,_,_,_,_=>by unfold iq;simpa using h
 | a ::l,ev,h,u,p,q,r=>by
   have c:=List.nodup_cons.1 u
   have d:=p a zw
   cases k:j a with
   | false=>
     have:iq j i (a::l)=iq j i l:=by unfold iq;rw [z8 (by simp [k])]
     rw [this]
     exact EvO.scan o l h c.2 (fun b s=>p b (zo _ s)) q (fun e f m n g=>r e f m n (zo _ g))
   | true=>
     have:ev++iq j i (a::l)=(ev++[⟨1,i,a,0⟩])++iq j i l:=by unfold iq;rw [z9 k,zH,List.append_assoc];rfl
     rw [this]
     refine EvO.scan o l ?_ c.2 (fun b s=>p b (zo _ s)) ?_ ?_
     . refine h.add (.inr ⟨rfl,d.1,rfl⟩) (fun x t w=>?_) (fun _ _ h=>h) ?_ (fun _=>?_)
       . obtain⟨m,n,g⟩:=w
         exact r x t m.symm n.symm (by rw [<-g];exact zw)
       . show(if 1=0 then _ else _)∈_
         rw [if_neg (by decide),d.2];exact o
       . simp only [];rw [q,d.2]
     . rw [List.foldl_append,Xb,List.foldl_nil]
       unfold qg
       rw [if_neg (by simp)];exact q
     . intro e f m n g
       rcases List.mem_append.1 f with f|f
       . exact r e f m n (zo _ g)
       . rw [List.mem_singleton.1 f]at g;exact c.1 g
theorem EvO.step{j:Nat->Bool}{i:Bool}{v lab:Nat}{l:List Nat}(h:EvO A N O ev)(k:v<N)(d:v∉O i)(m: ∀i x,x∈O i->x∈O' i)(f:v∈O' i)(n:l.Nodup)(g: ∀a∈l,a<A.length/\fsB i (A.getD a default)=v):
 EvO A N O' (ev++[⟨0,i,v,lab⟩]++iq j i l):=by
 refine EvO.scan f l (h.pop k d m f) n g ?_ ?_
 . rw [List.foldl_append,Xb,List.foldl_nil]
   unfold qg
   rw [if_pos rfl,if_pos rfl]
 . intro e b c o p
   rcases List.mem_append.1 b with b|b
   . have:=h.mem e b
     rw [c,if_neg (by decide),o,(g _ p).2]at this
     exact d this
   . rw [List.mem_singleton.1 b]at c;cases c
end
theorem zi(A:List Arc)(f:Arc->Nat)(j v:Nat):(outs A f j v).Nodup:=by unfold outs;exact List.nodup_range.filter _

def toE2(e:Ev):Ev2:=⟨e.kind,false,e.id,e.lab⟩
section
variable{A:List Arc}{N s:Nat}{al:Nat->Bool}{pi:Nat->Int}{σ:SS}
theorem pW{v lab:Nat}{p:List Nat}:(dH pi σ v lab p).ev=σ.ev:=by
 unfold dH;split<;>rfl
theorem vg{v:Nat}: ∀(l:List Nat) {σ:SS},(l.foldl (scan1 A al pi v) σ).ev.map toE2=σ.ev.map toE2++iq al false l
 | [],σ=>by unfold iq;simp
 | a::l,σ=>by
   rw [Xb,vg l]
   unfold scan1
   cases b:al a with
   |false=>rw [if_neg Bool.false_ne_true];unfold iq;rw [z8 (by simp [b])]
   |true=>rw [if_pos rfl,pW];unfold iq evS;rw [z9 b,zH,zU,List.append_assoc];rfl
def oneS(O:List Nat):Bool->List Nat:=fun i=>if i=true then []else O
theorem ends_EvS{to:Nat}{r:Fd}(g: ∀a∈A,a.t<N/\a.w<=co)(j:Ends A al pi to σ r):Sv A N s al pi σ->EvO A N (oneS σ.O) (σ.ev.map toE2)-> ∃O,EvO A N O (r.ev.map toE2):=by
 induction j with
 |none _=>exact fun _ h=>⟨_,h⟩
 | @hit σ k c=>
   intro I h
   obtain⟨d,e,_⟩:=I.op _ _ c.1
   refine⟨oneS (σ.O++[to]),?_⟩
   show EvO A N _ ((σ.ev++[_]).map toE2)
   rw [zU]
   refine h.pop d (by unfold oneS;rw [if_neg (by decide)];exact e) (fun i x b=>?_) (by unfold oneS;rw [if_neg (by decide)];simp)
   unfold oneS at b⊢
   cases i
   . rw [if_neg (by decide)]at b⊢;exact zn _ b
   . rw [if_pos rfl]at b;cases b
 | @step σ v k r c l _ m=>
   intro I h
   obtain⟨n,o⟩:=I.next g c.1
   obtain⟨d,e,_⟩:=I.op _ _ c.1
   refine m n ?_
   have f:(jQ A al pi v (cu σ v)).ev.map toE2=σ.ev.map toE2++[⟨0,false,v,σ.L v⟩]++iq al false (outs A Arc.s A.length v):=by unfold jQ;rw [vg];simp [cu,toE2]
   rw [f,show(jQ A al pi v (cu σ v)).O=σ.O++[v]from o.O]
   refine h.step d (by unfold oneS;rw [if_neg (by decide)];exact e) (fun i x b=>?_) (by unfold oneS;rw [if_neg (by decide)];simp) (zi _ _ _ _) (fun a p=>j9.1 p)
   unfold oneS at b⊢
   cases i
   . rw [if_neg (by decide)]at b⊢;exact zn _ b
   . rw [if_pos rfl]at b;cases b
theorem seek_EvO{to:Nat}{r:Fd}(b: ∀a∈A,a.t<N/\a.w<=co)(c:s<N)(d:Ends A al pi to (iv pi s) r): ∃O,EvO A N O (r.ev.map toE2):=
 ends_EvS b d (qF c) (by unfold iv;rw [pW];exact EvO.nil)
end
end Go.Ab

end
section
namespace Go.Ab
open Go.Proofs
set_option maxRecDepth 10000
theorem ends_len{A:List Arc}{N s to:Nat}{c:Nat->Bool}{pi:Nat->Int}{σ:SS}{r:Fd}(g: ∀a∈A,a.t<N/\a.w<=co)(m:N<=12)(n:A.length<=100)(i:Ends A c pi to σ r):Sv A N s c pi σ->σ.ev.length<=σ.O.length*200->r.arcs.length<=12/\r.ev.length<=3000:=by
 induction i with
 | @none σ o=>
   intro h b
   have:=h.len
   exact⟨zt _,by show σ.ev.length<=3000;omega⟩
 | @hit σ k d=>
   intro h b
   have e:=h.len
   have f:=(h.bd to).2
   refine⟨by show(σ.P to).reverse.length<=12;rw [List.length_reverse];omega,?_⟩
   show(σ.ev++[_]).length<=3000
   simp;omega
 | @step σ v k r d j _ l=>
   intro h b
   obtain⟨e,f⟩:=h.next g d.1
   refine l e ?_
   have p:=uO A c pi v (cu σ v)
   have q:(cu σ v).ev.length=σ.ev.length+1:=by show(σ.ev++[_]).length=_;simp
   rw [f.O]
   show _<=(σ.O++[v]).length*200
   simp;omega
end Go.Ab
end
section
namespace Go.Ab
open Go.Proofs
structure EvK(γ:Gra)(xs:List Ev2):Prop where
 len:xs.length<1000000
 ok: ∀x∈xs,OkEv γ.nodes γ.arcs.length x
 nd:xs.Pairwise fun a b=> ¬kY b a
 hd:qi γ.arcs xs
theorem EvK.nil{a:Gra}:EvK a []:=⟨by simp,by simp,.nil,fun i b=>by simp at b⟩
theorem vV{c:Gra}(b:Good c){s to:Nat}(d:s<c.nodes){i:Nat->Bool}{pi:Nat->Int}{r:Fd}(e:Ends c.arcs i pi to (iv pi s) r):EvK c (r.ev.map toE2)/\r.arcs.length<=12:=by
 have j:=b.n2
 have f: ∀a∈c.arcs,a.t<c.nodes/\a.w<=co:=fun a k=>(b.arcs a k).2
 obtain⟨O,h⟩:=seek_EvO f d e
 have g:=b.many
 have l:=ends_len f j (by omega) e (qF d) (by unfold iv;rw [pW];exact zt _)
 exact⟨⟨by rw [zC];omega,h.ok,h.nd,h.hd⟩,l.1⟩
theorem sl_toE2{h:Hp}{v:Value}{l:List Ev}(s:ax h 4 fT v l):ax h 4 gO v (l.map toE2):=by
 rcases s with⟨a,b⟩|⟨b,o,p,c,d,e,f⟩
 . exact .inl ⟨a,by rw [b];rfl⟩
 . refine .inr ⟨b,o,p,c,by rw [zC];exact d,by rw [zC];exact e,?_⟩
   rw [zC,f,List.flatMap_map]
   rfl
theorem seek_any{b:Gra}(c:Good b){s to:Nat}(d:s<b.nodes){e:Nat->Bool}{pi:Nat->Int}{r:Fd}(f:Ends b.arcs e pi to (iv pi s) r)(g:r.dist<FAR):jG b.arcs s r.arcs to r.dist:=
 ends_path (fun a h=>(c.arcs a h).2) f (qF d) g
end Go.Ab

end
section
namespace Go.Ab
open Go.Proofs
set_option maxRecDepth 10000
def Tryz.Fv:=aj t1<|aj t2<|aj t3<|aj t4<|aj t5<|aj t6<|aj Z0<|aj t32<|aj t33<|aj Z1<|aj t189<|aj Z3<|t240
theorem wnode_ok{h0:Hp}(b:h0.t.Sized h0.n){p:Value}{a:Gra}{d:Nat}(c:cE h0 d p a){v:Nat}(i:v<a.nodes):aW zl 74 [p,.int .i64 (v:Nat)] h0 (.bool true):=by
 have S:=Si b
 have e:(0:Int)<=(v:Int):=by omega
 have f:(v:Int)<(a.nodes:Int):=by omega
 refine ag (n:=13) (rs:=[.tmp 4]) rfl Tryz.e74 rfl rfl rfl (lbt rfl) ?_
 simp only [BS,LB,Nat.reduceLT,Nat.reduceEqDiff,e]
 refine ar (dN S.ok c) ?_
 intro h g
 simp only [BS,LB,ae,Nat.reduceLT,Nat.reduceEqDiff,f]
 exact g
theorem wsteps_ok{h0:Hp}(k:h0.t.Sized h0.n){i s:Nat}{g:Value}(l:Fl g):Ret zl 75 [ptrTo i,.int .i64 (s:Nat),g] h0 fun r f=>Gr h0 f/\ ∃a b4 b5,r=.func (.func 154) #[] #[ptrTo b5,ptrTo a,ptrTo b4]/\h0.n<=a/\h0.n<=b4/\h0.n<=b5/\b4≠a/\b4≠b5/\f.load a 0 1=some [ptrTo i]/\Row f b4 [.int .i64 (s:Nat)] 1/\f.load b5 0 1=some [g]:=by
 have S:=Si k
 refine ag (n:=8) (rs:=[.tmp 6]) rfl Tryz.e75 rfl rfl rfl (lbt rfl) ?_
 simp only [BS,Nat.reduceLT]
 refine am (dp (by exact fO)) S ?_;clear S;intro h a S b
 simp only [BS,Nat.reduceLT,Nat.reduceEqDiff,if_false]
 refine am (dp (by exact bI)) S ?_;clear S;intro h b4 S c
 simp only [BS,Nat.reduceLT,Nat.reduceEqDiff,if_false]
 refine am (dp (by assumption)) S ?_;clear S;intro h b5 S d
 simp only [BS,LB,ae,Nat.reduceLT,Nat.reduceEqDiff]
 have j:=S.apart
 exact⟨S.gr,a,b4,b5,rfl,b,c,d,fun e=>(by subst e;simp [keys]at j),fun e=>(by subst e;simp [keys]at j),S.ld m2 rfl,S.row m1,S.ld m0 rfl⟩
theorem steps_it{l h0:Hp}(z:l.t.Sized l.n)(L:Gr l h0){g:Gra}{nb R:Nat}(hn:cE l nb (ptrTo R) g){M:Value}{d:List Nat}{s t w:Nat}(N:ax l 1 cI M d)(hp:jG g.arcs s d t w)(hl:d.length<=1000){u b4 b5:Nat}
 (e3:h0.load u 0 1=some [ptrTo R]) (e4:Row h0 b4 [.int .i64 (s:Nat)] 1) (e5:h0.load b5 0 1=some [M]) (d3:b4≠u) (d5:b4≠b5) (dq:l.n<=b4):
 IterW zl 154 [ptrTo b5,ptrTo u,ptrTo b4] h0 (fun c=>c=b5\/c=u\/c<l.n) (· =b4) (d.map fun(a:Nat)=>[.agg ⟨cG (g.arcs.getD a default)⟩,.bool true]):=by
 intro lb J Z hz Y hW h F j p B C
 have q:=L.ok
 obtain⟨p1,p2,p3⟩:=hp.at
 have f:Row h b4 [.int .i64 (s:Nat)] 1:=Row.of_get (p b4 rfl) e4
 have q5:=j.load q e5 (.inl rfl)
 have fI:=N.fl
 refine enter (n:=35) (rs:=[]) rfl Tryz.e154 rfl rfl rfl (lbt rfl) ?_
 simp only [BS,LB,Nat.reduceLT,Fv,q5,N.lenq]
 refine bg (fun(i:Nat) r h=>i<=d.length/\ ∃F,ItS h0 (fun c=>c=b5\/c=u\/c<l.n) h F/\b4∉F/\J i h F/\Row h b4 [.int .i64 (iV g.arcs s d i:Nat)] 1/\r 0=.func (.yield lb) #[] #[]/\r 2=ptrTo u/\r 3=ptrTo b4/\r 9=M/\r 10=.int .i64 (d.length:Nat)/\r 11=.int .i64 i) (fun i=>d.length-i) ?_ 0 _ _ ?_
 . clear q5 f C B p j F h
   intro i ih r h ⟨hi,F,j,B,C,f,r0,r2,r3,r9,r10,r11⟩
   have wi:au .i64 ((i:Int)+1)=((i+1:Nat):Int):=by rw [wrap64]<;>omega
   by_cases hlt:i<d.length
   . obtain⟨O,k⟩:=p1 i hlt
     have ea:d.getD i 0=d[i]:=by rw [zj,zk hlt];rfl
     have T:iV g.arcs s d (i+1)=(g.arcs.getD d[i] default).t:=by
      unfold iV
      rw [if_neg (by omega),zY,ea]
     have U:(d.map fun(a:Nat)=>[Value.agg ⟨cG (g.arcs.getD a default)⟩,.bool true])[i]? =some [.agg ⟨cG (g.arcs.getD d[i] default)⟩,.bool true]:=by rw [zK,zk hlt];rfl
     rw [ea]at O k
     obtain⟨a,V⟩: ∃a,d[i]=a:=⟨_,rfl⟩
     have W:ax h 1 cI M d:=j.sl q (N.gr L) (fun b h=>.inr (.inr (N.lt z h)))
     obtain⟨c,o,x0,P⟩:=W.ix (kd:=.i64) jo hlt
     rw [V]at P O k T U
     replace P:h.load c o 1=some [.int .i64 (a:Nat)]:=P
     have q3:=j.load q e3 (.inr (.inl rfl))
     have q4:=f.load1 (o:=0) rfl
     have nt:cE h nb (ptrTo R) g:=hn.keep z (j.keep (Gr.keep L) L.n (fun c hc=>.inr (.inr hc)))
     have S:=Si j.ok
     have ga:g.arcs[a]=g.arcs.getD a default:=by simp [zj,O]
     have al:=f.lt j.ok
     simp only [BS,LB,Nat.reduceLT,Nat.reduceEqDiff,Fv,r2,r9,r10,r11,aI,hlt,x0,P,q3]
     refine step_ret (pD S.ok nt O) ?_
     rintro rv h ⟨X,rfl⟩
     replace S:=S.call X
     rw [ga]
     generalize hA:g.arcs.getD a default=A at k T U
     have D:(A.s:Int)=(iV g.arcs s d i:Int):=by rw [k]
     have aa:(d.map fun(a:Nat)=>[Value.agg ⟨cG (g.arcs.getD a default)⟩,.bool true])[i]? =some [.agg ⟨[.int .i64 (iV g.arcs s d i:Nat),.int .i64 A.t,.int .i64 A.w]⟩,.bool true]:=by rw [U,<-k];rfl
     simp only [BS,LB,Nat.reduceLT,Nat.reduceEqDiff,Fv,cG]
     refine am aF S ?_;clear S;intro h E S an
     simp only [BS,LB,Nat.reduceLT,Nat.reduceEqDiff]
     refine aH (S.store (i:=0) rfl ?_ ?_ rfl rfl ?_ ono) ?_
     . exact(by exact Tryz.t99.2.1)
     . exact(by intro x e;cases e)
     . exact lbt rfl
     clear S;rintro h ⟨S,mo⟩;clear mo;simp only [LC,ah,lay,zy,zz,Nat.reduceAdd]at S
     have sA:=j.gr S.gr
     have jA:=Y.gr _ _ _ _ C S.gr
     have m:=f.gr S.gr
     have ac:=m.load1 (o:=0) rfl
     have R7:=S.row (b:=E) m0
     have n7:E∉F:=fun G=>by have:=j.lt _ G;have:=X.n;omega
     have k7:=R7.lt S.ok
     have d7:E≠b4:=fun e=>by have:=X.n;omega
     simp only [BS,LB,Nat.reduceLT,Nat.reduceEqDiff,Fv,r0,r3,ac,D,List.drop_zero,Xi,List.take_zero,S.ld (b:=E) (o:=0) m0 rfl,S.lds (b:=E) (o:=0) (n:=3) m0 (lbt rfl)]
     refine ef Y sA jA (i:=i) aa ?_ ?_ ?_
     . intro Q F3 H y f3 ad
       have I:Row Q b4 [.int .i64 (iV g.arcs s d i:Nat)] 1:=f3.has (o:=.row _ 1) m B
       have af:=f3.has (o:=.row _ 1) R7 n7
       have ai:b4∉F3:=fun G=>(ad b4 G).elim B (fun h=>by have:=S.fr.n;omega)
       have ak:=Row.load1 (o:=1) af rfl
       have S:=St.init1 y.ok (o:=.row _ 1) I
       simp only [BS,LB,Nat.reduceLT,Nat.reduceEqDiff,Fv,r3,ak]
       refine aH (aC S (i:=0) rfl Tryz.t3.2.2.1 bI (zq (lbt rfl)) ono) ?_
       clear S;rintro h4 ⟨S,_⟩
       simp only [LC]at S
       have K:=S.fr
       simp only [BS,LB,Nat.reduceLT,Nat.reduceEqDiff,r11,wi]
       refine ih (i+1) _ _ (by omega) ⟨by omega,F3,?_,ai,hW _ _ _ _ H K,by rw [T];exact S.row m0,by simp [ab,r0],by simp [ab,r2,ao],by simp [ab,r3,ao],by simp [ab,r9],by simp [ab,r10],by simp [ab]⟩
       exact⟨K.ok,zT y.n K.n,fun b p hd=>(K.get b (zp p y.n) (by rcases hd with h|h|h;exact fun e=>d5 (by omega);exact fun e=>d3 (by omega);exact fun e=>by omega)).trans (y.data b p hd),y.apart,fun b p=>zp (y.lt b p) K.n⟩
     . intro Q H _
       simp only [BS,LB,Nat.reduceLT,Nat.reduceEqDiff]
       exact iQ rfl ⟨rfl,.inr (.inl ⟨_,rfl,H⟩)⟩
     . intro v Q H
       exact absurd H (hz v Q)
   . simp only [BS,LB,Nat.reduceLT,r10,r11,aI,hlt]
     have:i=d.length:=by omega
     subst this
     exact dS (dE ⟨rfl,_,rfl,rfl,.inl ⟨_,F,rfl,by rw [zC];exact C⟩⟩)
 . exact⟨zt _,F,j,fun G=>B b4 G rfl,C,f,by simp [ab,cC],by simp [ab,cC,ao],by simp [ab,cC,ao],by simp [ab],by simp [ab],by simp [ab]⟩
def Tryz.Fk:=aj t1<|aj t2<|aj t3<|aj t4<|aj t5<|aj t6<|aj Z2<|aj Z5<|aj t9<|aj t10<|aj t11<|aj t12<|aj Z12<|aj t22<|aj t23<|aj Z0<|aj t32<|aj t33<|aj Z1<|aj t147<|aj t189<|Z3
theorem xg{h0:Hp}(W:h0.t.Sized h0.n){j:Gra}(I:Good j){nb Y:Nat}(Z:cE h0 nb (ptrTo Y) j){vI:Value}{d:List Nat}{s t w:Nat}(hs:s<j.nodes)(hI:ax h0 1 cI vI d)(hl:d.length<=1000){u:Nat}(hp:jG j.arcs s d u w)(hw:u=t\/(u≠t/\w=0)):
 Ret zl 22 [ptrTo Y,.int .i64 (s:Nat),.int .i64 (t:Nat),vI] h0 fun r z=>Gr h0 z/\r=.tuple #[.int .i64 (w:Nat),.bool (decide (u=t))]:=by
 have S:=Si W
 have fI:=hI.fl
 obtain⟨p1,p2,p3⟩:=hp.at
 refine ag (n:=40) (rs:=[.cell 8 2,.tmp 9]) rfl Tryz.e22 rfl rfl rfl (lbt rfl) ?_
 simp only [BS,Fk]
 refine am aF S ?_;clear S;intro h l S aa
 simp only [BS,LB,Nat.reduceLT,Nat.reduceEqDiff]
 refine ar (wnode_ok S.ok (Z.gr S.gr) hs) ?_
 intro h g;replace S:=S.call g;clear g
 simp only [BS,LB,Nat.reduceLT,Nat.reduceEqDiff,Fk]
 refine am aF S ?_;clear S;intro h f S J
 simp only [BS,LB,Nat.reduceLT,Nat.reduceEqDiff]
 refine aH (aC S (i:=0) rfl Tryz.t3.2.2.1 bI (zq (lbt rfl)) ono) ?_
 clear S;rintro h ⟨S,_⟩
 simp only [LC]at S
 simp only [BS,LB,Nat.reduceLT,Nat.reduceEqDiff,run_label]
 have k0:=S.fr.n
 refine step_ret (wsteps_ok S.ok fI) ?_
 rintro r hA ⟨g,b3,K,b5,rfl,n3,n4,n5,d3,d5,y3,y4,y5⟩
 have k8:=(S.row (b:=l) m1).lt S.ok
 have ad:=(S.row (b:=f) m0).lt S.ok
 replace S:=S.call g
 have it:=steps_it W S.gr Z hI hp hl y3 y4 y5 d3 d5 (by omega)
 simp only [BS]
 refine kZ S (g:=154) (a:=#[]) (b:=#[ptrTo b5,ptrTo b3,ptrTo K]) (by simp [cy,ab,ao]) rfl rfl ?_
 intro h2 B C D af ai M
 have ac:f≠K:=by omega
 have ak:l≠K:=by omega
 obtain⟨X,hX,D⟩: ∃X:fG,X=_/\St NoM h0 h2 [(C,.loop X),(B,.dfr),(f,.row [.int .i64 (s:Nat)] 1),(l,.row [.int .i64 0] 1)] []:=⟨_,rfl,D⟩
 have z0:iV j.arcs s d 0=s:=rfl
 have z1:sumA j.arcs d 0=0:=rfl
 have N:=y4.lt S.ok
 have hJ:Yld zl C (fun k z F=>St NoM h0 z [(C,.loop X),(B,.dfr),(f,.row [.int .i64 (iV j.arcs s d k:Nat)] 1),(l,.row [.int .i64 (sumA j.arcs d k:Nat)] 1)] []/\k<=d.length/\sumA j.arcs d k<=k*2147483647/\F=[C,B,f,l]) (fun _ _=>False) (d.map fun(a:Nat)=>[.agg ⟨cG (j.arcs.getD a default)⟩,.bool true]):=by
  refine⟨?_,?_,fun _ _ h=>h.elim,?_⟩
  . rintro i h F ⟨S,_,_,rfl⟩;exact⟨S.ok,fun b m=>S.key_lt (by simpa [keys]using m)⟩
  . rintro i h F z ⟨S,a,b,rfl⟩ gg;exact⟨S.call gg,a,b,rfl⟩
  . rintro i x hR F O ⟨S,a,m,rfl⟩
    have p:i<d.length:=by
     have:=(List.getElem?_eq_some_iff.1 O).1
     simpa using this
    rw [zK,zk p]at O
    cases O
    obtain⟨P,al⟩:=p1 i p
    have ea:d.getD i 0=d[i]:=by rw [zj,zk p];rfl
    have en:iV j.arcs s d (i+1)=(j.arcs.getD d[i] default).t:=by
     unfold iV
     rw [if_neg (by omega),zY,ea]
    have q:=sumA_succ (A:=j.arcs) p
    rw [ea]at q P
    have an:(j.arcs.getD d[i] default).w<=2147483647:=by
     have:j.arcs.getD d[i] default∈j.arcs:=by rw [zj,zk P];exact zD P
     exact(I.arcs _ this).2.2
    have ws:au .i64 ((sumA j.arcs d i:Int)+((j.arcs.getD d[i] default).w:Int))=((sumA j.arcs d (i+1):Nat):Int):=by rw [q,wrap64]<;>omega
    subst hX
    refine lz (S.get m0) (by rw [Tryz.e22];rfl) rfl ?_
    have S0:=S
    replace S:=S.base
    simp only [BS,Fk,cG]
    refine am aF S ?_;clear S;intro h E S Q
    simp only [BS,LB,Nat.reduceLT,Nat.reduceEqDiff]
    refine aH (S.store (i:=0) rfl ?_ ?_ rfl rfl ?_ ono) ?_
    . exact(by exact Tryz.t99.2.1)
    . exact(by intro x e;cases e)
    . exact lbt rfl
    clear S;rintro h ⟨S,R⟩;clear R;simp only [LC,ah,lay,zy,zz,Nat.reduceAdd]at S
    simp only [BS,LB,Nat.reduceLT,Nat.reduceEqDiff]
    refine jB S (i:=1) rfl rfl rfl rfl rfl ?_
    clear S;intro h S
    simp only [LC]at S
    simp only [BS,LB,Nat.reduceLT,Nat.reduceEqDiff,Fk,ws,S.ld (b:=l) (o:=0) m4 rfl,S.ld (b:=E) (o:=2) m0 rfl]
    refine aH (aC S (i:=4) rfl Tryz.t2.2.2.1 bI (zq (lbt rfl)) ono) ?_
    clear S;rintro h ⟨S,_⟩
    simp only [LC]at S
    simp only [BS,LB,Nat.reduceLT,Nat.reduceEqDiff,Fk,S.ld (b:=E) (o:=1) m0 rfl]
    refine aH (aC S (i:=3) rfl Tryz.t3.2.2.1 bI (zq (lbt rfl)) ono) ?_
    clear S;rintro h ⟨S,_⟩
    simp only [LC]at S
    simp only [BS]
    refine gH S (i:=1) rfl ?_
    clear S;intro h S
    simp only [LC]at S
    rw [<-en]at S
    refine .inl ⟨rfl,_,⟨S0.rebase S.drop1,by omega,by omega,rfl⟩,?_,fun c G=>.inl G⟩
    have:=S.fr
    simp only [keys,zH,zJ,zZ,Xa]at this
    exact this
 refine iN (it C _ _ (fun _ _ h=>h) hJ ?_ h2 [C,B,f,l] ?_ (fun b m=>?_) (fun b m=>?_) ⟨by rw [z0,z1];exact D,zt _,by rw [z1];exact zt _,rfl⟩) fun o rc z y=>lx y ?_
 . rintro i h F z ⟨T,a,b,rfl⟩ R
   refine⟨T.step R (fun c G=>.inr (by subst G;omega)) (fun c G e=>?_),a,b,rfl⟩
   subst e
   simp only [keys,zH,zJ,zZ,Xa,z7,zP,or_false]at G
   omega
 . refine⟨D.ok,M.n,fun b m _=>M.get b m,fun b m h=>?_,fun b m=>D.key_lt (by simpa [keys]using m)⟩
   simp only [z7,zP,or_false]at m
   rcases m with rfl|rfl|rfl|rfl
   . omega
   . omega
   . rcases h.2 with e|e|e<;>omega
   . rcases h.2 with e|e|e<;>omega
 . subst m
   exact M.get _ N
 . intro e
   subst e
   simp only [z7,zP,or_false]at m
   omega
 . rintro F ⟨T,_,_,rfl⟩
   rw [zC]at T
   rw [p2,p3]at T
   subst hX
   refine⟨_,T.get m0,Nat.zero_ne_one,?_⟩
   replace T:=T.dead
   have S:=T
   have c0: ¬(u:Int)<0:=by omega
   have U: ¬(t:Int)<0:=by omega
   show Run _ _ _ _ _ _ _ _
   by_cases v:u=t
   . have V:(u:Int)=(t:Int):=by omega
     simp only [BS,LB,Nat.reduceLT,Nat.reduceEqDiff,Fk,U,V,S.ld (b:=f) (o:=0) m1 rfl,S.ld (b:=l) (o:=0) m2 rfl]
     refine aH (aC T (i:=2) rfl Tryz.t2.2.2.1 bI (zq (lbt rfl)) ono) ?_
     clear S;rintro h3 ⟨S,_⟩
     simp only [LC]at S
     simp only [BS]
     refine gL (kc [B] _ (L:=[(f,_),(l,_)]) S.base fun h4 H=>?_)
     refine⟨rfl,(dC (by decide) (by simp only [aQ,ao,Nat.reduceEqDiff,reduceIte];exact me Tryz.t2.2.1 (H.ld (b:=l) (o:=0) m1 rfl))).2 ((gw (by decide)).2 (dX.2 ⟨(S.rebase H).gr,?_⟩))⟩
     rw [decide_eq_true v];rfl
   . have V: ¬(u:Int)=(t:Int):=by omega
     have w0:w=0:=(hw.resolve_left v).2
     subst w0
     simp only [BS,LB,Nat.reduceLT,Nat.reduceEqDiff,zx,Fk,c0,V,S.ld (b:=f) (o:=0) m1 rfl,S.ld (b:=l) (o:=0) m2 rfl]
     refine aH (aC T (i:=2) rfl Tryz.t2.2.2.1 bI (zq (lbt rfl)) ono) ?_
     clear S;rintro h3 ⟨S,_⟩
     simp only [LC]at S
     simp only [BS]
     refine gL (kc [B] _ (L:=[(f,_),(l,_)]) S.base fun h4 H=>?_)
     refine⟨rfl,(dC (by decide) (by simp only [aQ,ao,Nat.reduceEqDiff,reduceIte];exact me Tryz.t2.2.1 (H.ld (b:=l) (o:=0) m1 rfl))).2 ((gw (by decide)).2 (dX.2 ⟨(S.rebase H).gr,?_⟩))⟩
     rw [decide_eq_false v];rfl
def Tryz.F1:=aj t1<|aj t2<|aj t3<|aj t4<|aj t5<|aj t6<|aj Z2<|aj Z5<|aj t9<|aj t10<|aj t11<|aj t12<|aj Z12<|aj t14<|aj r14<|aj t15<|aj t16<|aj t17<|aj t18<|aj r18<|aj t19<|aj r19<|aj t22<|aj t24<|aj Z10<|aj t29<|aj Z0<|aj t32<|aj t33<|aj t41<|aj t45<|aj t47<|aj r47<|aj t48<|aj t51<|aj Z16<|aj t59<|aj Z7<|aj Z1<|aj Z4<|aj t181<|aj t189<|aj Z3<|aj t271<|aj t358<|aj Z14<|aj t372<|aj t374<|aj t376<|aj t377<|aj t378<|aj t379<|Z17
theorem worksF_ok{h0:Hp}(a:h0.t.Sized h0.n):aW zl 15 [] h0 (.bool true):=ret_orc rfl ⟨rfl,Gr.refl a⟩
theorem SlW.grF2{h a:Hp}{kd:IntKind}{v:Value}{xs:List Int}(s:SlW h kd v xs)(g:Gr h a):SlW a kd v xs:=s.imp (fun h=>h) (fun⟨b,o,c,d,e,f⟩=>⟨b,o,c,d,e,g.load f⟩)

theorem gX.set{N j:Nat}{l:List Int}(h:gX N l):gX N (l.set j 0):=⟨by rw [List.length_set];exact h.1,fun x a=>by
 rcases List.mem_or_eq_of_mem_set a with a|rfl
 . exact h.2 x a
 . omega⟩
theorem gflF{M:Nat->Prop}{h0 h:Hp}{L:List (Nat×Ob)}{G:List GL}(S:St M h0 h L G){v:Value}{k:Nat}{vs:List Value}(a:(v,k,vs)∈G):Fl v:=by
 rcases(S.gown _ a).1 with⟨e,_⟩|⟨_,_,e,_⟩
 . rw [show v=_ from e];exact bD
 . rw [show v=_ from e];exact bD
def AfS(h0 h:Hp)(N:Nat)(e f:Value)(c d:List Value)(a b:List (List Int)):Prop:=
 St NoM h0 h [] [(e,1,c),(f,1,d)]/\c.length=a.length/\d.length=b.length/\
  RowsIn h h0.n (keys [] [(e,1,c),(f,1,d)]) c (fun j=>a.getD j [])/\RowsIn h h0.n (keys [] [(e,1,c),(f,1,d)]) d (fun j=>b.getD j [])/\(∀r∈a,gX N r)/\(∀r∈b,gX N r)
theorem RowsIn.extF{h:Hp}{m:Nat}{K:List Nat}{a:List Value}{R R':Nat->List Int}(r:RowsIn h m K a R)(e: ∀j,j<a.length->R j=R' j):RowsIn h m K a R':=fun j w b=>by
 have c:=(List.getElem?_eq_some_iff.1 b).1
 rw [<-e j c];exact r j w b
theorem RowsIn.lessF{h:Hp}{m:Nat}{K b:List Nat}{d:List Value}{R:Nat->List Int}(r:RowsIn h m K d R)(e: ∀c∈b,c∈K):RowsIn h m b d R:=fun j w a=>⟨(r j w a).1,fun c f=>⟨((r j w a).2 c f).1,fun g=>((r j w a).2 c f).2 (e c g)⟩⟩
theorem dz.grF{h a:Hp}{p:GL}(G:dz h p)(g:Gr h a):dz a p:=G.of_get fun b c=>g.get b (G.lt g.ok0 c)
theorem jr{v:Value}{k:Nat}{vs:List Value}{c:Nat}(e:c8 (v,k,vs)=some c):av v c:=by
 unfold c8 at e
 split at e
 . rename_i a;obtain⟨rfl,_⟩:=Prod.mk.inj a;exact Option.some.inj e
 . cases e
theorem oK{G:List GL}{v:Value}{k:Nat}{vs:List Value}{c:Nat}(d:c∈keys [] ((v,k,vs)::G)):av v c\/c∈keys [] G:=by
 obtain⟨a,b,e⟩:=List.mem_filterMap.1 (show c∈List.filterMap c8 ((v,k,vs)::G)from d)
 rcases List.mem_cons.1 b with rfl|b
 . exact .inl (jr e)
 . exact .inr (List.mem_filterMap.2 ⟨a,b,e⟩)
theorem l7{G:List GL}{p:GL}{c:Nat}(b:c∈keys [] G):c∈keys [] (p::G):=by
 obtain⟨a,d,e⟩:=List.mem_filterMap.1 (show c∈List.filterMap c8 G from b)
 exact List.mem_filterMap.2 ⟨a,zo _ d,e⟩
theorem RowsIn.moreF{h:Hp}{m:Nat}{K f:List Nat}{g:List Value}{R:Nat->List Int}(r:RowsIn h m K g R)(k:h.t.Sized h.n)(e: ∀c∈f,c∈K\/h.n<=c):RowsIn h m f g R:=fun j w l=>by
 obtain⟨a,b⟩:=r j w l
 refine⟨a,fun c d=>⟨(b c d).1,fun n=>?_⟩⟩
 rcases e c n with i|i
 . exact(b c d).2 i
 . have:=a.lt k d;omega
theorem uX{h:Hp}{v:Value}{vs:List Value}{kd:IntKind}{i c:Nat}(g:dz h (v,1,vs))(f:i<vs.length)(e:kz (some 1) v (.int kd (i:Nat))=some (.pointer (some ⟨c,i,none⟩))):av v c:=by
 rcases g with⟨_,a⟩|⟨b,n,d,a,j⟩
 . simp only []at a;subst a;simp at f
 . simp only []at d a;subst d
   have k:n=vs.length:=by omega
   rw [jz,jk (by omega)]at e
   simp [putI]at e
   exact e
theorem idx_slF{h:Hp}{v:Value}{xs:List Int}{i b o:Nat}{kd:IntKind}(s:ax h 1 (encI .i64) v xs)(a:i<xs.length)(e:kz (some 1) v (.int kd (i:Nat))=some (.pointer (some ⟨b,o,none⟩))):av v b:=by
 rcases s with⟨_,rfl⟩|⟨d,f,p,c,rfl,g,j⟩
 . simp at a
 . rw [jz,jk a]at e
   simp [putI]at e
   exact e.1
theorem sJ{h0:Hp}(ok:h0.t.Sized h0.n){vB vM vN:Value}{w0 f t a:Int}{B ms NL:List Int}(hB:SlW h0 .u8 vB B)(hM:SlW h0 .u8 vM ms)(bx: ∀x∈ms,0<=x/\x<=255)(bB:ms.length<=9223372036854775807)(hN:SlW h0 .i64 vN NL):
 aW zl 4 [.agg ⟨[vB,vM,.int .i64 w0,.int .i64 f,.int .i64 t,.int .i64 a,vN]⟩] h0 (.bool true):=by
 have S:=Si ok
 have fB:=hB.sl.fl
 have fM:=hM.sl.fl
 have fN:=hN.sl.fl
 refine ag (n:=137) (rs:=[.tmp 2]) rfl Tryz.e4 rfl rfl rfl (lbt rfl) ?_
 simp only [BS,Nat.reduceLT]
 refine am (bE (by intro x e;cases e)) S ?_;clear S;intro h b1 S cX;simp only [ah]at S
 simp only [BS,LB]
 refine ar (worksF_ok S.ok) ?_
 intro h g
 replace S:=S.call g;clear g
 simp only [BS,LB,Nat.reduceLT,Nat.reduceEqDiff,F1,List.drop_zero,Xi,List.take_zero,S.lds (b:=b1) (o:=0) (n:=7) m0 (lbt rfl)]
 refine step_ret (yW S.ok (hB.grF2 S.gr) fM fN) ?_;intro v h ⟨g,γ,vx,vy,va,er,hγ,ga,_⟩;replace S:=S.call g;clear g
 subst er
 have fx:=ga.X.fl
 have fy:=ga.Y.fl
 have fa:=ga.A.fl
 have R1:=S.row (b:=b1) m0
 have H:=S.gr
 have U:=S.ok
 clear S
 have S:=Si U
 simp only [BS,F1,ik]
 refine am aF S ?_;clear S;intro h b3 S cY
 simp only [BS,LB,Nat.reduceLT,Nat.reduceEqDiff]
 refine aH (S.store (i:=0) rfl Tryz.t31.2.1 (by intro x e;cases e) rfl (by simp only [ah,Xh,Xk,fx.2.1,fy.2.1,fa.2.1,zN];rfl) (lbt rfl) ono) ?_
 clear S;rintro h ⟨S,mo⟩;clear mo
 simp only [LC,ah,lay,zy,zz,Nat.reduceAdd]at S
 have R3:=S.row (b:=b3) m0
 replace R1:=R1.gr S.gr
 replace ga:=ga.gr S.gr
 replace H:=H.trans S.gr
 have U:=S.ok
 clear S
 have S:=Si U
 have l3:h.load b3 0 4=some [.int .i64 γ.nodes,vx,vy,va]:=R3.load (zu 4)
 simp only [BS,LB,Nat.reduceLT,Nat.reduceEqDiff,F1,l3]
 refine step_ret (netNew_ok S.ok hγ (ga.gr S.gr)) ?_
 rintro v h ⟨p,rfl,g,P⟩
 obtain⟨bp,rfl⟩: ∃b,p=ptrTo b:=by obtain⟨b,_,_,_,_,_,e,_⟩:=P.ex;exact⟨b,e⟩
 replace S:=S.call g;clear g
 replace R1:=R1.gr S.gr
 replace R3:=R3.gr S.gr
 replace H:=H.trans S.gr
 have U:=S.ok
 clear S l3
 have S:=Si U
 rename Hp=>hX
 have Z:hX.load b1 0 7=some [vB,vM,.int .i64 w0,.int .i64 f,.int .i64 t,.int .i64 a,vN]:=R1.load (zu 7)
 have D:=R3.load1 (o:=0) rfl
 have n1:=hγ.n1
 have n2:=hγ.n2
 simp only [BS,LB,Nat.reduceLT,Nat.reduceEqDiff,F1,Z,D]
 refine step_ret (places_ok S.ok fB (hM.grF2 (H.trans S.gr)) bx bB fN n1 (by omega)) ?_
 rintro vl hA ⟨gA,l,sl,hl,c4,c6,_⟩
 replace R1:=R1.gr gA
 replace R3:=R3.gr gA
 replace P:=P.gr gA
 replace H:=H.trans gA
 have ad:=gA.ok
 clear S Z D
 have fl:=sl.fl
 have S:=Si ad
 have y1:=R1.lt ad
 have y3:=R3.lt ad
 simp only [BS,LB,Nat.reduceLT,Nat.reduceEqDiff]
 replace S:=S.nilG (k:=1)
 replace S:=S.nilG (k:=1)
 have Z:hA.load b1 0 7=some [vB,vM,.int .i64 w0,.int .i64 f,.int .i64 t,.int .i64 a,vN]:=R1.load (zu 7)
 have D:=R3.load1 (o:=0) rfl
 refine q7 (fun L h=> ∃M N w0 w1 A C,AfS hA h γ.nodes M N w0 w1 A C/\A.length=l.length/\C.length=l.length/\L 1=ptrTo b1/\L 3=ptrTo b3/\L 4=ptrTo bp/\L 6=vl/\L 7=M/\L 8=N)
  (fun(i:Nat) L h=>i<=l.length/\ ∃M N w0 w1 A C,AfS hA h γ.nodes M N w0 w1 A C/\A.length=i/\C.length=i/\L 1=ptrTo b1/\L 3=ptrTo b3/\L 4=ptrTo bp/\L 6=vl/\L 7=M/\L 8=N/\L 9=.int .i64 i) (fun i=>l.length-i) ?_ ?_ 0 ?_
 . clear S
   intro i ih L h ⟨hi,M,N,x0,x1,A,C,⟨S,e0,e1,F,G,q0,q1⟩,ea,eb,r1,r3,r4,r6,r7,r8,r9⟩
   have wi:au .i64 ((i:Int)+1)=((i+1:Nat):Int):=by rw [wrap64]<;>omega
   by_cases hlt:i<l.length
   . have u1:au .i64 (3*(i:Int))=((3*i:Nat):Int):=by rw [wrap64]<;>omega
     have u2:au .i64 (5*(i:Int))=((5*i:Nat):Int):=by rw [wrap64]<;>omega
     have u3:au .i64 (((5*i:Nat):Int)+1)=((5*i+1:Nat):Int):=by rw [wrap64]<;>omega
     obtain⟨pa,b0⟩: ∃p:Nat,p=3*i:=⟨_,rfl⟩
     obtain⟨pc,bd⟩: ∃p:Nat,p=5*i:=⟨_,rfl⟩
     obtain⟨pb,b2⟩: ∃p:Nat,p=5*i+1:=⟨_,rfl⟩
     rw [<-b0]at u1
     rw [<-bd]at u2
     rw [<-b2,<-bd]at u3
     have f0:=gflF S m0
     have f1:=gflF S m1
     have z1:=zp y1 S.gr.n
     have z3:=zp y3 S.gr.n
     have kK:=fun c (z:c∈keys _ _)=>S.key_lt z
     simp only [BS,LB,Nat.reduceLT,Nat.reduceEqDiff,F1,r6,r9,sl.lenq,aI,hlt]
     refine aE (aK rfl) (q:=0) (ps:=[(5,8),(5,6)]) (by kernel_rfl) ?_
     simp only [BS,LB,cls,Nat.reduceLT,Nat.reduceEqDiff,Nat.reduceAdd,Nat.reducePow,Nat.reduceDiv,Nat.reduceMod,Nat.reduceLeDiff,F1,r1,r3,r9,u1,S.gr.load Z,S.gr.load D]
     refine cM (wC S.ok fB fM (hN.grF2 (H.trans S.gr)) n2 (by omega)) ?_
     rintro ya h ⟨g,ra,a0,Ga,na⟩
     have a1:=aG g z1
     have a3:=aG g z3
     have af:=g.n
     have kn:=S.fr.n
     have be:=S.ok
     have g1:=g
     replace S:=S.call g;clear g
     have b4: ∀c,av ya c->c<_:=fun c z=>Ga.lt S.ok (jj Ga z)
     simp only [BS,LB,cls,Nat.reduceLT,Nat.reduceEqDiff,Nat.reduceAdd,Nat.reducePow,Nat.reduceDiv,Nat.reduceMod,Nat.reduceLeDiff,F1,r1,r3,r9,u2,u3,S.gr.load Z,S.gr.load D]
     refine cM (wC S.ok fB fM (hN.grF2 (H.trans S.gr)) n2 (by omega)) ?_
     rintro yb h ⟨g,rb,a2,Gb,ai⟩
     have c1:=aG g (zp z1 af)
     have c3:=aG g (zp z3 af)
     replace S:=S.call g
     replace Ga:=Ga.grF g
     simp only [BS,LB,cls,Nat.reduceLT,Nat.reduceEqDiff,Nat.reduceAdd,Nat.reducePow,Nat.reduceDiv,Nat.reduceMod,Nat.reduceLeDiff]
     refine⟨by simp only [bH,bN,a8,bP,bz,ne_eq,not_false_eq_true,bZ,cv,bV,bG,cy,dl,aQ,Nat.reduceLT,Nat.reduceEqDiff,reduceIte,zN,r1,r3,r4,r6,ao,r7,r8,r9,bS a1,aX a1,bS a3,aX a3,bS c1,aX c1,bS c3,aX c3],?_⟩
     have kM: ∀c∈keys [] [(ya,1,ints ra),(yb,1,ints rb),(M,1,x0),(N,1,x1)],c∈keys [] [(M,1,x0),(N,1,x1)]\/_<=c:=fun c z=>by
      rcases oK z with z|z
      . exact .inr (na c z)
      rcases oK z with z|z
      . exact .inr (zT af (ai c z))
      . exact .inl z
     replace F:=(F.moreF be kM).gr (g1.trans g)
     replace G:=(G.moreF be kM).gr (g1.trans g)
     clear kM
     replace S:=S.adoptG (p:=(yb,1,ints rb)) Gb fun c z=>⟨.inl (by have:=ai c (jr z);omega),fun I=>by have:=kK c I;have:=ai c (jr z);omega⟩
     replace S:=S.adoptG (p:=(ya,1,ints ra)) Ga fun c z=>⟨.inl (by have:=na c (jr z);omega),fun I=>by
      rcases oK I with I|I
      . have:=ai c I;have:=b4 c (jr z);omega
      . have:=kK c I;have:=na c (jr z);omega⟩
     clear g1 g af
     have b5:=hl.2 i hlt
     have eI:l.getD i 0=l[i]:=by rw [zj,zk hlt];rfl
     rw [eI]at b5
     obtain⟨Q,b6⟩: ∃Q:Nat,l[i]=(Q:Int):=⟨l[i].toNat,by omega⟩
     have ak:Q<γ.nodes:=by omega
     obtain⟨cc,oo,al,bf⟩:=(sl.gr S.gr).ix (kd:=.i64) (cO .i64) hlt
     have nc:cc<hA.n:=sl.lt ad (idx_slF sl hlt al)
     rw [b6]at bf
     have V:=S
     have J:=F
     have K:=G
     replace S:=V.base
     obtain⟨bX,ix,bh⟩:=S.gset (E:=zl) (t:=2) (j:=0) (i:=Q) (kd:=.i64) rfl (by rw [cZ,a0.1];exact ak) Tryz.t2.2.2.1
     have nX:=uX (S.gown _ m0).1 (by rw [cZ,a0.1];exact ak) ix
     refine aE (aK rfl) (q:=0) (ps:=[]) (by kernel_rfl) ?_
     simp only [BS,LB,cls,Nat.reduceLT,Nat.reduceEqDiff,Nat.reduceAdd,Nat.reducePow,Nat.reduceDiv,Nat.reduceMod,Nat.reduceLeDiff,F1,r6,r9,al,bf,encI,ix]
     refine cU (bh _ bI) ?_
     clear S bh;intro h S
     simp only [LC]at S
     obtain⟨bY,iy,bi⟩:=S.gset (E:=zl) (t:=2) (j:=1) (i:=Q) (kd:=.i64) rfl (by rw [cZ,a2.1];exact ak) Tryz.t2.2.2.1
     have nY:=uX (S.gown _ m1).1 (by rw [cZ,a2.1];exact ak) iy
     simp only [BS,LB,cls,Nat.reduceLT,Nat.reduceEqDiff,Nat.reduceAdd,Nat.reducePow,Nat.reduceDiv,Nat.reduceMod,Nat.reduceLeDiff,F1,iy]
     refine cU (bi _ bI) ?_
     clear S bi;intro h S
     simp only [LC]at S
     rw [ints_set,ints_set]at S
     replace F:=J.step S
     replace G:=K.step S
     replace S:=V.rebase S
     clear V J K
     have a4:ax h 1 (encI .i64) ya (ra.set Q 0):=(S.gown _ m0).1.sl rfl (fun _=>rfl) (by decide)
     have a5:ax h 1 (encI .i64) yb (rb.set Q 0):=(S.gown _ m1).1.sl rfl (fun _=>rfl) (by decide)
     have b7: ∀c,av ya c->hA.n<=c/\c∉keys [] [(yb,1,ints (rb.set Q 0)),(M,1,x0),(N,1,x1)]:=fun c z=>by
      refine⟨((S.gblk m0 z).1).elim id (fun h=>h.elim),fun I=>?_⟩
      have ap:=S.apart
      have hg:c8 (ya,1,ints (ra.set Q 0))=some c:=jj (S.gown _ m0).1 z
      simp only [keys,zJ,List.nil_append,zW,hg]at ap I
      exact(List.nodup_cons.1 ap).1 I
     replace S:=S.sub (List.Sublist.refl _) (Xd _ _)
     replace F:=F.lessF (fun c z=>l7 z)
     replace G:=G.lessF (fun c z=>l7 z)
     replace F:=(F.extF (R':=fun j=>(A++[ra.set Q 0]).getD j []) (fun j hj=>by simp [zj,zI (show j<A.length by omega)])).push (y:=ya) (by rw [e0];simpa using a4) b7
     have b8: ∀c,av yb c->hA.n<=c/\c∉keys [] [(M,1,x0),(N,1,x1)]:=fun c z=>by
      refine⟨((S.gblk m0 z).1).elim id (fun h=>h.elim),fun I=>?_⟩
      have ap:=S.apart
      have hg:c8 (yb,1,ints (rb.set Q 0))=some c:=jj (S.gown _ m0).1 z
      simp only [keys,zJ,List.nil_append,zW,hg]at ap I
      exact(List.nodup_cons.1 ap).1 I
     replace S:=S.sub (List.Sublist.refl _) (Xd _ _)
     replace F:=F.lessF (fun c z=>l7 z)
     replace G:=G.lessF (fun c z=>l7 z)
     replace G:=(G.extF (R':=fun j=>(C++[rb.set Q 0]).getD j []) (fun j hj=>by simp [zj,zI (show j<C.length by omega)])).push (y:=yb) (by rw [e1];simpa using a5) b8
     have b9:=a4.fl
     have ca:=a5.fl
     obtain⟨aa,an,ac,rfl⟩:=a4.form
     obtain⟨ba,bn,bc,rfl⟩:=a5.form
     have V:=S
     have J:=F
     have K:=G
     replace S:=V.base
     simp only [BS,LB,Nat.reduceLT,Nat.reduceEqDiff,Nat.reduceAdd,r7]
     refine am (bW (by exact Tryz.t59.1) (by exact Xl) (by decide) (by rfl)) S ?_;clear S;intro h bt S c0;simp only [LC,aV,bJ,ah,Nat.reduceMul,Nat.reduceAdd,Xj,zR,zM,Xm]at S
     simp only [BS,LB,Nat.reduceLT,Nat.reduceEqDiff]
     have W:aL h 1 (.slice (some ⟨bt,0,none⟩) 1 1)=some (1,[.slice aa an ac]):=by simp only [aL];rw [S.lds (b:=bt) (o:=0) (n:=1*1) m0 (lbt rfl)];rfl
     replace S:=S.drop1
     refine dQ (S.grow (j:=0) (m:=1) (new:=[.slice aa an ac]) rfl Tryz.t59.1 Xl (by decide) Tryz.t59.2.2.2.2.2 W rfl (by decide) (by simp [b9.2.1]) (by simp;omega)) ?_
     clear S W;rintro h cf S
     simp only [LC]at S
     replace F:=J.step S
     replace G:=K.step S
     replace S:=V.rebase S
     clear V J K
     have V:=S
     have J:=F
     have K:=G
     replace S:=V.base
     simp only [BS,LB,Nat.reduceLT,Nat.reduceEqDiff,r8]
     refine am (bW (by exact Tryz.t59.1) (by exact Xl) (by decide) (by rfl)) S ?_;clear S;intro h bs S c2;simp only [LC,aV,bJ,ah,Nat.reduceMul,Nat.reduceAdd,Xj,zR,zM,Xm]at S
     simp only [BS,LB,Nat.reduceLT,Nat.reduceEqDiff]
     have W:aL h 1 (.slice (some ⟨bs,0,none⟩) 1 1)=some (1,[.slice ba bn bc]):=by simp only [aL];rw [S.lds (b:=bs) (o:=0) (n:=1*1) m0 (lbt rfl)];rfl
     replace S:=S.drop1
     refine dQ (S.grow (j:=1) (m:=1) (new:=[.slice ba bn bc]) rfl Tryz.t59.1 Xl (by decide) Tryz.t59.2.2.2.2.2 W rfl (by decide) (by simp [ca.2.1]) (by simp;omega)) ?_
     clear S W;rintro h ch S
     simp only [LC]at S
     replace F:=J.step S
     replace G:=K.step S
     replace S:=V.rebase S
     clear V J K
     simp only [BS,LB,Nat.reduceLT,Nat.reduceEqDiff,r9,wi]
     refine ih (i+1) _ _ (by omega) ⟨by omega,cf,ch,_,_,A++[ra.set Q 0],C++[rb.set Q 0],⟨S,by simp [e0],by simp [e1],F,G,fun x O=>?_,fun x O=>?_⟩,by simp [ea],by simp [eb],by simp [ab,r1,ao],by simp [ab,r3,ao],by simp [ab,r4,ao],by simp [ab,r6],by simp [ab],by simp [ab],by simp [ab]⟩
     . rcases List.mem_append.1 O with O|O
       . exact q0 x O
       . rw [List.mem_singleton.1 O];exact a0.set
     . rcases List.mem_append.1 O with O|O
       . exact q1 x O
       . rw [List.mem_singleton.1 O];exact a2.set
   . obtain rfl:i=l.length:=by omega
     simp only [BS,LB,Nat.reduceLT,Nat.reduceEqDiff,F1,r6,r9,sl.lenq,aI,hlt]
     exact gJ ⟨M,N,x0,x1,A,C,⟨S,e0,e1,F,G,q0,q1⟩,ea,eb,by simp [ab,r1,ao],by simp [ab,r3,ao],by simp [ab,r4,ao],by simp [ab,r6],by simp [ab,r7],by simp [ab,r8]⟩
 . clear S
   rintro L h ⟨M,N,x0,x1,A,C,⟨S,e0,e1,F,G,q0,q1⟩,ea,eb,r1,r3,r4,r6,r7,r8⟩
   have f0:=gflF S m0
   have f1:=gflF S m1
   have bk:ax h 1 encV M x0:=(S.gown _ m0).1.sl (pu x0).symm oz (by decide)
   have bl:ax h 1 encV N x1:=(S.gown _ m1).1.sl (pu x1).symm oz (by decide)
   have bT: ∀c,av M c->hA.n<=c:=fun c z=>((S.gblk m0 z).1).elim (fun h=>h) (fun h=>h.elim)
   have bF: ∀c,av N c->hA.n<=c:=fun c z=>((S.gblk m1 z).1).elim (fun h=>h) (fun h=>h.elim)
   have LT:dM h hA.n M l.length (fun j=>A.getD j []):=⟨x0,bk,by omega,bT,fun j w hw=>⟨(F j w hw).1,fun x O=>((F j w hw).2 x O).1⟩⟩
   have LF:dM h hA.n N l.length (fun j=>C.getD j []):=⟨x1,bl,by omega,bF,fun j w hw=>⟨(G j w hw).1,fun x O=>((G j w hw).2 x O).1⟩⟩
   have k0: ∀i,i<l.length->gX γ.nodes (A.getD i []):=fun i hi=>by
    rw [zj,zk (show i<A.length by omega)]
    exact q0 _ (zD _)
   have k1: ∀i,i<l.length->gX γ.nodes (C.getD i []):=fun i hi=>by
    rw [zj,zk (show i<C.length by omega)]
    exact q1 _ (zD _)
   have gS:=S.gr
   have cj:=S.ok
   clear S F G bk bl bT bF q0 q1 e0 e1 ea eb
   rename Hp=>hM'
   replace Z:=gS.load Z
   replace D:=gS.load D
   replace P:=P.gr gS
   replace sl:=sl.gr gS
   replace H:=H.trans gS
   have S:=Si cj
   simp only [BS,LB,Nat.reduceLT,Nat.reduceEqDiff,F1,r3,r6,r7,r8,D]
   refine step_ret (make_ok S.ok sl LT LF n1 (by omega) hl k0 k1) ?_
   rintro r h ⟨g,T⟩
   obtain⟨bt,rfl⟩: ∃b,r=ptrTo b:=by obtain⟨b,_,_,_,e,_⟩:=T.ex;exact⟨b,e⟩
   replace S:=S.call g;clear g
   have TQ:TabQ h (ptrTo bt) γ.nodes l (fun j=>A.getD j []) (fun j=>C.getD j []):=.inl ⟨_,T,fun i hi=>(k0 i hi).1,fun i hi=>(k1 i hi).1⟩
   simp only [BS,LB,Nat.reduceLT,Nat.reduceEqDiff,F1,r1,r3,S.gr.load Z,S.gr.load D]
   refine step_ret (zb S.ok fB fM fN n1 (by omega)) ?_
   rintro rv h ⟨g,s,u,a',hs,hu,rfl⟩
   replace S:=S.call g;replace TQ:=TQ.gr g;clear g
   have gQ:=S.gr
   have ck:=S.ok
   clear S
   rename Hp=>hQ
   replace Z:=gQ.load Z
   replace D:=gQ.load D
   replace P:=P.gr gQ
   replace H:=H.trans gQ
   have S:=Si ck
   simp only [BS,F1]
   refine am aF S ?_;clear S;intro h bm S cl
   simp only [BS,LB,Nat.reduceLT,Nat.reduceEqDiff]
   refine aH (S.store (i:=0) rfl Tryz.t28.2.1 (by intro x e;cases e) rfl (by simp only [ah,Xh,Xk,zN];rfl) (lbt rfl) ono) ?_
   clear S;rintro h ⟨S,mo⟩;clear mo
   simp only [LC,ah,lay,zy,zz,Nat.reduceAdd]at S
   have a6:=S.lds (b:=bm) (o:=0) (n:=4) m0 (lbt rfl)
   have R:=S.row (b:=bm) m0
   simp only [zz,zy]at a6
   have hW:iB γ.nodes γ.nodes l.length (s:Int) (u:Int)=0:=by
    unfold iB
    rw [if_neg (by omega),if_neg (by omega),if_pos ⟨by omega,rfl⟩]
   simp only [BS,LB,Nat.reduceLT,Nat.reduceEqDiff,F1,r4,a6]
   clear a6
   refine step_ret (altRun_ok S.ok hγ (P.gr S.gr) (TQ.gr S.gr) (by omega) bI (f:=s) (t:=u) (a:=a')) ?_
   rintro rv h ⟨g,cc,d,vA,cm,vE,rfl,X⟩
   obtain⟨z1,z2,z3⟩:Fl vA/\Fl cm/\Fl vE:=by
    rcases X with⟨_,_,_,p3,p4,p5⟩|⟨_,_,_,_,_,_,_,_,_,_,_,sE,⟨_,_,_,q3,q4⟩|⟨_,_,_,q3,q4⟩⟩
    . rw [p3,p4,p5];exact⟨bD,bD,bD⟩
    . rw [q3,q4];exact⟨bD,bD,sE.fl⟩
    . exact⟨q3.fl,q4.fl,sE.fl⟩
   replace H:=H.trans (S.gr.trans g)
   replace P:=P.gr (S.gr.trans g)
   replace R:=R.gr g
   have cn:=g.ok
   clear S g TQ
   rename Hp=>hR
   have S:=Si cn
   simp only [BS,LB,Nat.reduceLT,Nat.reduceEqDiff,F1,ansV]
   refine am aF S ?_;clear S;intro h cp S cr
   simp only [BS,LB,Nat.reduceLT,Nat.reduceEqDiff]
   refine aH (S.store (i:=0) rfl Tryz.t47.2.1 (by intro x e;cases e) rfl (by simp only [ah,Xh,Xk,z1.2.1,z2.2.1,zN];rfl) (lbt rfl) ono) ?_
   clear S;rintro h ⟨S,mo⟩;clear mo
   simp only [LC,ah,lay,zy,zz,Nat.reduceAdd]at S
   have a7:=S.row (b:=cp) m0
   replace R:=R.gr S.gr
   replace P:=P.gr S.gr
   replace H:=H.trans S.gr
   have gR:=S.gr
   have cs:=S.ok
   clear S
   have S:=Si cs
   rename Hp=>hT
   have cx:=R.load1 (o:=1) rfl
   have cz:=R.load1 (o:=2) rfl
   have bo:=a7.load1 (o:=0) rfl
   have bq:=a7.load1 (o:=1) rfl
   have br:=a7.load1 (o:=2) rfl
   simp only [BS,LB,Nat.reduceLT,Nat.reduceEqDiff,F1,r4,cx,cz,br]
   obtain⟨Y,v,w,xs,hI,cA,cN,cT,sE,kE,bb⟩: ∃(Y:List Nat) (v w:Nat) (xs:List Ev2),ax hR 1 cI vA Y/\Y.length<=1000/\jG γ.arcs s Y v w/\(v=u\/(v≠u/\w=0))/\ax hR 4 gO vE xs/\EvK γ xs/\((v=u/\cc=0/\d=(w:Nat))\/(v≠u/\cc=20/\d=0/\Y=[])):=by
    rcases X with⟨p0,p1,p2,p3,p4,p5⟩|⟨_,bv,s',w',fd,es,ew,db,dc,_,he,sE,⟨hd,q1,q2,q3,q4⟩|⟨hd,q1,q2,q3,q4⟩⟩
    . have cW:s=u:=by
       rcases p0 with h|h
       . exact absurd hW h
       . omega
      rw [hW]at p1
      subst cW p2 p3 p4 p5 p1
      exact⟨[],s,0,[],.inl ⟨rfl,rfl⟩,zt _,.nil,.inl rfl,.inl ⟨rfl,rfl⟩,EvK.nil,.inl ⟨rfl,rfl,rfl⟩⟩
    . obtain rfl:s'=s:=by omega
      obtain rfl:w'=u:=by omega
      subst q1 q2 q3 q4
      have I:=(vV hγ hs he).1
      exact⟨[],s',0,_,.inl ⟨rfl,rfl⟩,zt _,.nil,.inr ⟨by omega,rfl⟩,sl_toE2 sE,I,.inr ⟨by omega,rfl,rfl,rfl⟩⟩
    . obtain rfl:s'=s:=by omega
      obtain rfl:w'=u:=by omega
      subst q1 q2
      have I:=vV hγ hs he
      exact⟨fd.arcs,w',fd.dist,_,q3,by have:=I.2;omega,seek_any hγ hs he hd,.inl rfl,sl_toE2 sE,I.1,.inl ⟨rfl,rfl,rfl⟩⟩
   clear X
   refine step_ret (xg S.ok hγ P hs (hI.gr gR) cA cN cT) ?_
   rintro rv h ⟨g,rfl⟩
   replace S:=S.call g;clear g
   simp only [BS,LB,Nat.reduceLT,Nat.reduceEqDiff,F1,r4]
   refine ar (uU S.ok (P.gr S.gr) ((sE.gr gR).gr S.gr) kE.len kE.ok kE.nd) ?_
   intro h g;replace S:=S.call g;clear g
   rcases bb with⟨rfl,rfl,rfl⟩|⟨bv,rfl,rfl,rfl⟩
   . simp only [BS,LB,ae,Nat.reduceLT,Nat.reduceEqDiff,F1,S.gr.load bo,S.gr.load bq]
     exact H.trans S.gr
   . simp only [BS,LB,ae,Nat.reduceLT,Nat.reduceEqDiff,zx,F1,S.gr.load bo,S.gr.load bq,S.gr.load br,bv,hI.lenq,(by decide: ¬(20:Int)=0)]
     exact H.trans S.gr
 . exact⟨zt _,_,_,_,_,[],[],⟨S,rfl,rfl,fun j w hw=>by simp at hw,fun j w hw=>by simp at hw,by simp,by simp⟩,rfl,rfl,by simp [ab,ao],by simp [ab,ao],by simp [ab,ao],by simp [ab],by simp [ab],by simp [ab],by simp [ab]⟩
end Go.Ab
end
section
namespace Go.Ab
open Go.ChangeShapes Go.WideShapes Go.RowKit
theorem rowAt_le{P:Program}{b:TypeId->Bool}{d:Nat}{e:TypeId}{a off n:Nat}(h:rowAt P b d e a off n=true):off<=a*P.cellsOf e:=by
 cases d with
 |zero=>cases h
 | succ d=>
   unfold rowAt at h
   simp only []at h
   split at h
   . cases h
   . rename_i i
     have c:0<P.cellsOf e:=by omega
     have f:=Nat.div_add_mod off (P.cellsOf e)
     simp only [Bool.or_eq_true,Bool.and_eq_true,beq_iff_eq,decide_eq_true_eq]at h
     rcases h with⟨⟨g,j⟩,_⟩|⟨g,_⟩
     . have:P.cellsOf e*(off/P.cellsOf e)<=P.cellsOf e*a:=Nat.mul_le_mul_left _ (by omega)
       rw [Nat.mul_comm a];omega
     . have:P.cellsOf e*(off/P.cellsOf e+1)<=P.cellsOf e*a:=Nat.mul_le_mul_left _ (by omega)
       have hlt:=Nat.mod_lt off c
       rw [Nat.mul_add,zM]at this
       rw [Nat.mul_comm a];omega
theorem liesAt_le{P:Program}{d:Nat}: ∀{e:TypeId} {a off:Nat} {u:TypeId} {n:Nat},liesAt P d e a off u n=true->off<=a*P.cellsOf e:=by
 induction d with
 |zero=>intro e a off u n h;cases h
 | succ d b=>
   intro e a off u n h
   unfold liesAt at h
   rw [Bool.or_eq_true]at h
   rcases h with h|h
   . exact rowAt_le h
   . split at h
     . exact b h
     . cases h
theorem has_W{P:Program}{W:World}{r:_root_.Go.Reach}{base:Nat}{a:Addr}{e:TypeId}{n:Nat}(h:W.has P r base a e n):a.spot=none/\a.block<W.heap.size/\ ∃l,(hpW W).load (a.block+16) a.off 0=some l:=by
 obtain⟨_,f,i,c,b,k⟩:=h
 have hle:=liesAt_le k
 have d:a.off<=c:=zT hle (Nat.div_mul_le_self _ _)
 unfold World.shape? at b
 split at b
 next m el q g=>
  cases b
  have hlt:=(Array.getElem?_eq_some_iff.1 g).1
  have p:Row (hpW W) (a.block+16) (m.toList.map (gm W.heap.size)) 0:=⟨_,_,by rw [pK,g];rfl,Tr.sized_ofList _,fun j=>Tr.get_ofList _ j⟩
  exact⟨f,hlt,_,p.load (o:=a.off) (n:=0) (by simpa using d)⟩
 . cases b
section
variable{H:Type}{enc:TypeId×Value->H}{P:Program}
theorem ju{W:World}{base n:Nat}{s e:TypeId}{k:IntKind}{c:Value}{C:Nat->Bool}{D:Bool}{x:DataW H×List MemPlace}(v:P.underlying s=some (.slice e))(E:P.underlying e=some (.int k))(F:P.cellsOf e=1)
 (b:Cell.okWide P W .any base s c) (h:DataW.trod enc P W 0 C D n s [c]=some x): ∃d:List Int,SlW (hpW W) k (gm W.heap.size c) d/\(∀z∈d,(Lit.int k z).wf=true)/\d.length<=9223372036854775807:=by
 rcases Go.ChangeShapes.open_ints v E F h with⟨w,_⟩|⟨a,g,o,d,w,I,A,J,p,_,j,y⟩
 . cases w
   exact⟨[],.inl ⟨rfl,rfl⟩,fun z p=>(by cases p),by simp⟩
 . cases w
   unfold Cell.okWide at b
   rw [v]at b
   simp only [Cell.ok,v]at b
   obtain⟨B,q,r⟩:=b
   obtain⟨t,hlt,G⟩:=has_W r
   have m:g<=d.length:=by rw [p];split<;>omega
   refine⟨d.take g,.inr ⟨a.block+16,a.off,o,?_,?_,?_⟩,fun z p=>y z (List.mem_of_mem_take p),by
    have:(o:Int)<=9223372036854775807:=q
    rw [zG];omega⟩
   . rw [zG,Xc m]
     simp only [gm,if_pos A,if_pos (And.intro t hlt)]
   . rw [zG,Xc m];exact A
   . rw [zG,Xc m,zM]
     rw [load_join (f:=fun i=>.int k (d.getD i 0)) G (fun i u=>load_W t (j i (by omega)))]
     congr 1
     have e4: ∀l:List Int,l.flatMap (encI k)=l.map fun x=>.int k x:=fun l=>by
      rw [Xe,List.map_eq_flatMap,Xe];rfl
     rw [e4]
     refine List.ext_getElem? fun i=>?_
     rw [zK,zK,List.getElem?_take]
     by_cases u:i<g
     . rw [if_pos u,List.getElem?_range u,zk (show i<d.length by omega)]
       simp [zj,show i<d.length by omega]
     . rw [if_neg u,List.getElem?_eq_none (by simpa using u)];rfl
theorem open_slV{W:World}{base:Nat}{s e:TypeId}{k:IntKind}{v:Value}{j:Nat->Bool}{m:Bool}{d:DataW H}{p:List MemPlace}(c:P.underlying s=some (.slice e))(n:P.underlying e=some (.int k))(o:P.cellsOf e=1)
 (a:Value.okWide P W .any base s v) (h:DataW.Trod enc P W 0 j m s v d p): ∃f:List Int,SlW (hpW W) k (absA W.heap.size v) f/\(∀z∈f,(Lit.int k z).wf=true)/\f.length<=9223372036854775807:=by
 unfold Value.okWide at a
 rw [c]at a
 obtain⟨i,h⟩:=h
 have b: ∀l:Array Value,v≠ .agg l:=by
  rintro l rfl
  simp only [Cell.okWide,c,Cell.ok]at a
 have g:v.cells.toList=[v]:=by cases v<;>first|rfl|exact absurd rfl (b _)
 rw [g]at h
 have q:absA W.heap.size v=gm W.heap.size v:=by cases v<;>first|rfl|exact absurd rfl (b _)
 rw [q]
 exact ju c n o a h
theorem open_sl2{W:World}{base:Nat}{t s e:TypeId}{k:IntKind}{j m:Field}{v:Value}{C:Nat->Bool}{D:Bool}{d:DataW H}{p:List MemPlace}(r:P.underlying t=some (.struct #[j,m]))(E:j.offset=0)(o1:m.offset=1)(F:j.type=s)(t1:m.type=s)
 (u:P.underlying s=some (.slice e)) (w:P.underlying e=some (.int k)) (x:P.cellsOf e=1) (f:P.cellsOf s=1) (o:P.cellsOf t=2) (q:P.cellTypes P.depth t=some [s,s])
 (a:Value.okWide P W .any base t v) (h:DataW.Trod enc P W 0 C D t v d p):
 ∃(c0 g:Value) (xs ys:List Int),v=.agg #[c0,g]/\SlW (hpW W) k (gm W.heap.size c0) xs/\SlW (hpW W) k (gm W.heap.size g) ys/\(∀z∈xs,(Lit.int k z).wf=true)/\ ∀z∈ys,(Lit.int k z).wf=true:=by
 unfold Value.okWide at a
 rw [r]at a
 obtain⟨G,rfl,c,O,i,_,b⟩:=a
 rw [q]at i
 cases i
 rw [o]at c
 obtain⟨l⟩:=G
 simp only [zL]at c
 obtain⟨c0,g,rfl⟩:=len2 c
 obtain⟨y,h⟩:=h
 obtain⟨Q,R,n,_,_,A,B⟩:=Go.ChangeShapes.trod_struct2 r h
 rw [E,F,f]at A
 rw [o1,t1,f]at B
 obtain⟨S,I,J⟩:=b 0 c0 rfl
 obtain⟨T,i,K⟩:=b 1 g rfl
 cases I
 cases i
 obtain⟨xs,L,M,_⟩:=ju u w x J A
 obtain⟨ys,N,wy,_⟩:=ju u w x K B
 exact⟨c0,g,xs,ys,rfl,L,N,M,wy⟩
end
end Go.Ab

end
section
namespace Go.Ab
open Go.ChangeShapes Go.WideShapes Go.RowKit
section
variable{H:Type}{enc:TypeId×Value->H}{P:Program}
theorem open_arr2{W:World}{base:Nat}{t e:TypeId}{k:IntKind}{v:Value}{w:Nat->Bool}{z:Bool}{d:DataW H}{p:List MemPlace}(n:P.underlying t=some (.array 2 e))(o:P.underlying e=some (.int k))(i:P.cellsOf e=1)(j:P.cellsOf t=2)
 (c:Value.okWide P W .any base t v) (h:DataW.Trod enc P W 0 w z t v d p): ∃x y:Int,v=.agg #[.int k x,.int k y]/\(Lit.int k x).wf=true/\(Lit.int k y).wf=true:=by
 unfold Value.okWide at c
 rw [n]at c
 obtain⟨A,rfl,f,_⟩:=c
 rw [j]at f
 obtain⟨l⟩:=A
 simp only [zL]at f
 obtain⟨a,b,rfl⟩: ∃a b,l=[a,b]:=by
  match l,f with
  | [a,b],_=>exact⟨a,b,rfl⟩
 obtain⟨q,h⟩:=h
 obtain⟨r,m,_,_,_,g,hf⟩:=DataW.trod_array n h
 obtain⟨F,G,rfl⟩: ∃a b,r=[a,b]:=by
  match r,g with
  | [a,b],_=>exact⟨a,b,rfl⟩
 have s:=hf 0 (by decide)
 have u:=hf 1 (by decide)
 rw [i]at s u
 obtain⟨x,B,_,C⟩:=DataW.trod_int o s
 obtain⟨y,D,_,E⟩:=DataW.trod_int o u
 cases B
 cases D
 exact⟨x,y,rfl,C,E⟩
end
end Go.Ab

end
section
namespace Go.Ab
open Go.ChangeShapes Go.WideShapes Go.RowKit
section
variable{H:Type}{enc:TypeId×Value->H}{P:Program}
theorem li{t e:TypeId}{k:IntKind}{n:Nat}{cs:List Value}{W:World}{d:Nat->Bool}{f:Bool}{a:Nat}{x:DataW H×List MemPlace}(g:P.underlying t=some (.array n e))(j:P.underlying e=some (.int k))(b:P.cellsOf e=1)(h:DataW.trod enc P W 0 d f a t cs=some x):
 ∀i,i<n-> ∃z:Int,cs[i]? =some (.int k z)/\(Lit.int k z).wf=true:=by
 obtain⟨l,m,_,_,_,c,hf⟩:=DataW.trod_array g h
 intro i s
 have q:=hf i (by omega)
 rw [b,zM]at q
 obtain⟨y,o⟩: ∃y,l[i]? =some y:=⟨_,zk (by omega)⟩
 rw [o]at q
 obtain⟨z,p,_,r⟩:=DataW.trod_int j q
 refine⟨z,?_,r⟩
 have:=congrArg (·[0]?) p
 simpa using this
theorem len7{α:Type}{l:List α}(h:l.length=7): ∃a b c d e f g,l=[a,b,c,d,e,f,g]:=by
 match l,h with
 | [a,b,c,d,e,f,g],_=>exact⟨a,b,c,d,e,f,g,rfl⟩
theorem open_d13{W:World}{base:Nat}{t g F G i e I:TypeId}{s w A C:Field}{v:Value}{X:Nat->Bool}{Y:Bool}{d:DataW H}{p:List MemPlace}(R:P.underlying t=some (.struct #[s,w,A,C]))(Z:s.offset=0)(o1:w.offset=1)(o2:A.offset=3)(o3:C.offset=6)
 (t0:s.type=g) (t1:w.type=F) (t2:A.type=G) (t3:C.type=i) (h0:P.underlying g=some (.slice e)) (D:P.underlying F=some (.array 2 e)) (m:P.underlying G=some (.array 3 e)) (h3:P.underlying i=some (.slice I))
 (k:P.underlying e=some (.int .u8)) (g3:P.underlying I=some (.int .i64)) (c0:P.cellsOf e=1) (c3:P.cellsOf I=1) (d0:P.cellsOf g=1) (d1:P.cellsOf F=2) (d2:P.cellsOf G=3) (d3:P.cellsOf i=1) (J:P.cellsOf t=7) (K:P.cellTypes P.depth t=some [g,e,e,e,e,e,i])
 (c:Value.okWide P W .any base t v) (h:DataW.Trod enc P W 0 X Y t v d p):
 ∃ (a b:Value) (x y L M O:Int) (B N:List Int),v=.agg #[a,.int .u8 x,.int .u8 y,.int .u8 L,.int .u8 M,.int .u8 O,b]/\SlW (hpW W) .u8 (gm W.heap.size a) B/\SlW (hpW W) .i64 (gm W.heap.size b) N/\
   (∀z∈B,(Lit.int .u8 z).wf=true)/\(∀z∈N,(Lit.int .i64 z).wf=true)/\(Lit.int .u8 x).wf=true/\(Lit.int .u8 y).wf=true/\(Lit.int .u8 L).wf=true/\(Lit.int .u8 M).wf=true/\(Lit.int .u8 O).wf=true/\N.length<=9223372036854775807:=by
 unfold Value.okWide at c
 rw [R]at c
 obtain⟨cs,rfl,f,ts,S,_,o⟩:=c
 rw [K]at S
 cases S
 rw [J]at f
 obtain⟨l⟩:=cs
 simp only [zL]at f
 obtain⟨a,x1,x2,y1,y2,y3,b,rfl⟩:=len7 f
 obtain⟨T,h⟩:=h
 obtain⟨xs,n,_,_,hl,q,hf⟩:=DataW.trod_struct R h
 obtain⟨z0,L,M,O,rfl⟩:=len4 (by rw [q];rfl:xs.length=4)
 have U:=hf 0 s rfl
 have Q:=hf 1 w rfl
 have E:=hf 2 A rfl
 have V:=hf 3 C rfl
 rw [Z,t0,d0]at U
 rw [o1,t1,d1]at Q
 rw [o2,t2,d2]at E
 rw [o3,t3,d3]at V
 have r: ∀(j:Nat) t v,[g,e,e,e,e,e,i][j%7]? =some t->[a,x1,x2,y1,y2,y3,b][j]? =some v->Cell.okWide P W .any base t v:=fun j t v D m=>by
  obtain⟨u,h3,h4⟩:=o j v (by simpa using m)
  obtain rfl:t=u:=Option.some.inj (D.symm.trans h3)
  exact h4
 obtain⟨B,hB,wB,_⟩:=ju h0 k c0 (r 0 g a rfl rfl) U
 obtain⟨N,hN,wN,lN⟩:=ju h3 g3 c3 (r 6 i b rfl rfl) V
 obtain⟨k1,i1,j1⟩:=li D k c0 Q 0 (by decide)
 obtain⟨k2,i2,j2⟩:=li D k c0 Q 1 (by decide)
 obtain⟨k3,i3,j3⟩:=li m k c0 E 0 (by decide)
 obtain⟨k4,i4,j4⟩:=li m k c0 E 1 (by decide)
 obtain⟨k5,i5,j5⟩:=li m k c0 E 2 (by decide)
 cases i1
 cases i2
 cases i3
 cases i4
 cases i5
 exact⟨a,b,k1,k2,k3,k4,k5,B,N,rfl,hB,hN,wB,wN,j1,j2,j3,j4,j5,lN⟩
end
end Go.Ab

end
section
namespace Go.Ab
open Go.ChangeShapes Go.WideShapes Go.RowKit
section
variable{H:Type}{enc:TypeId×Value->H}{P:Program}
theorem open_d19{W:World}{base:Nat}{t g O i q e s:TypeId}{y A C D E F G I:Field}{v:Value}{sp:Nat->Bool}{hd:Bool}{d:DataW H}{p:List MemPlace}(X:P.underlying t=some (.struct #[y,A,C,D]))(o0:y.offset=0)(o1:A.offset=1)(o2:C.offset=2)(o3:D.offset=6)
 (t0:y.type=g) (t1:A.type=g) (t2:C.type=O) (t3:D.type=q) (hq:P.underlying O=some (.struct #[E,F,G,I])) (u0:E.offset=0) (u1:F.offset=1) (u2:G.offset=2) (u3:I.offset=3) (x0:E.type=i) (x1:F.type=i) (x2:G.type=i) (x3:I.type=i)
 (h0:P.underlying g=some (.slice e)) (h3:P.underlying q=some (.slice s)) (J:P.underlying i=some (.int .i64))
 (Y:P.underlying e=some (.int .u8)) (g3:P.underlying s=some (.int .i64)) (c0:P.cellsOf e=1) (c3:P.cellsOf s=1) (Z:P.cellsOf g=1) (dq:P.cellsOf O=4) (d3:P.cellsOf q=1) (K:P.cellsOf i=1) (Q:P.cellsOf t=7) (R:P.cellTypes P.depth t=some [g,g,i,i,i,i,q])
 (f:Value.okWide P W .any base t v) (h:DataW.Trod enc P W 0 sp hd t v d p):
 ∃ (a b c:Value) (S T U V:Int) (B M N:List Int),v=.agg #[a,b,.int .i64 S,.int .i64 T,.int .i64 U,.int .i64 V,c]/\SlW (hpW W) .u8 (gm W.heap.size a) B/\SlW (hpW W) .u8 (gm W.heap.size b) M/\SlW (hpW W) .i64 (gm W.heap.size c) N/\
   (∀z∈B,(Lit.int .u8 z).wf=true)/\(∀z∈M,(Lit.int .u8 z).wf=true)/\(∀z∈N,(Lit.int .i64 z).wf=true)/\M.length<=9223372036854775807/\N.length<=9223372036854775807:=by
 unfold Value.okWide at f
 rw [X]at f
 obtain⟨cs,rfl,m,ts,L,_,w⟩:=f
 rw [R]at L
 cases L
 rw [Q]at m
 obtain⟨l⟩:=cs
 simp only [zL]at m
 obtain⟨a,b,S,T,U,V,c,rfl⟩:=len7 m
 obtain⟨aa,h⟩:=h
 obtain⟨xs,n,_,_,hl,x,hf⟩:=DataW.trod_struct X h
 obtain⟨z0,z1,z2,z3,rfl⟩:=len4 (by rw [x];rfl:xs.length=4)
 have q0:=hf 0 y rfl
 have q1:=hf 1 A rfl
 have q2:=hf 2 C rfl
 have q3:=hf 3 D rfl
 rw [o0,t0,Z]at q0
 rw [o1,t1,Z]at q1
 rw [o2,t2,dq]at q2
 rw [o3,t3,d3]at q3
 have r: ∀(j:Nat) t v,[g,g,i,i,i,i,q][j%7]? =some t->[a,b,S,T,U,V,c][j]? =some v->Cell.okWide P W .any base t v:=fun j t v h1 h2=>by
  obtain⟨u,h3,h4⟩:=w j v (by simpa using h2)
  obtain rfl:t=u:=Option.some.inj (h1.symm.trans h3)
  exact h4
 obtain⟨B,hB,wB,_⟩:=ju h0 Y c0 (r 0 g a rfl rfl) q0
 obtain⟨M,hM,wM,lM⟩:=ju h0 Y c0 (r 1 g b rfl rfl) q1
 obtain⟨N,hN,wN,lN⟩:=ju h3 g3 c3 (r 6 q c rfl rfl) q3
 obtain⟨ys,n2,_,_,ac,o,k⟩:=DataW.trod_struct hq q2
 obtain⟨w0,w1,w2,w3,rfl⟩:=len4 (by rw [o];rfl:ys.length=4)
 have k0:=k 0 E rfl
 have k1:=k 1 F rfl
 have k2:=k 2 G rfl
 have k3:=k 3 I rfl
 rw [u0,x0,K]at k0
 rw [u1,x1,K]at k1
 rw [u2,x2,K]at k2
 rw [u3,x3,K]at k3
 obtain⟨n0,e0,_,_⟩:=DataW.trod_int J k0
 obtain⟨n1,L,_,_⟩:=DataW.trod_int J k1
 obtain⟨n2,e2,_,_⟩:=DataW.trod_int J k2
 obtain⟨n3,s,_,_⟩:=DataW.trod_int J k3
 cases e0
 cases L
 cases e2
 cases s
 exact⟨a,b,c,n0,n1,n2,n3,B,M,N,rfl,hB,hM,hN,wB,wM,wN,lM,lN⟩
end
end Go.Ab

end

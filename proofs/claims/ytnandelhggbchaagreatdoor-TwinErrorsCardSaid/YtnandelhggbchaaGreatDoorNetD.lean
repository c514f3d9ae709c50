/- Nets, cells, flags: what the functions do (part 4). -/
import Derived.Test.YtnandelhggbchaaGreatDoorNetC
open Go.Ab.Tryz
open Go.Ab.Tryz renaming abEnv->zM,e3E->Xz,e85->X6,e107->X8
open List renaming getD_eq_getElem?_getD->zN,range->Xa,getElem?_eq_getElem->Xd,length_drop->Xe,take_succ_cons->Xg,not_mem_nil->Xi,take->Xj,drop->Xk,drop_zero->Xl,mem_cons->Xo,take_zero->Xq,all_cons->Xs,all_nil->Xv,length_map->Xx,map_cons->XB,take_succ_eq_append_getElem->XC,length_take->XD,length_set->XE,filterMap_nil->XG,length_append->XK,flatMap_cons->XN,getElem?_map->XP,length_range->XQ,getElem?_append_left->XS,map_nil->XT,getElem_mem->XU,take_of_length_le->XW,flatMap_eq_foldl->XY,drop_succ_cons->X7
open Int renaming cast_ofNat_Int->Xb,eq_ofNat_of_zero_le->Xf,ofNat_eq_natCast->XF,tmod_eq_emod_of_nonneg->XM,toNat_natCast->XO
open Bool renaming and_true->Xc,true_eq_false->XH,false_eq_true->XI,true_and->XL,not_eq_true'->XR,false_and->XZ
open Nat renaming le_trans->Xh,zero_le->Xp,zero_add->Xr,mul_one->Xt,lt_of_succ_le->Xu,ble_eq_true_of_le->Xw,zero_mul->Xy,one_mul->XA,lt_of_lt_of_le->XJ,le_mul_of_pos_right->XV,le_refl->XX
open Option renaming map_some->Xm,map_none->Xn
set_option maxHeartbeats 4000000
set_option linter.defProp false
set_option linter.unusedVariables false
set_option linter.unusedSimpArgs false
section
namespace Go.Ab
open Go.Proofs
set_option maxRecDepth 10000
def Tryz.F0k:=aj t1<|t2
def wy(x:Int):Int:=min (max x 0) 72057594037927936
theorem zx{h0:Hp}(a:h0.t.Sized h0.n){b1 b2:Nat}{x:Int}(b:h0.load b1 0 1=some [.int .i64 0])(c:h0.load b2 0 1=some [.int .i64 72057594037927936]):bI zM 267 [.int .i64 x,ptrTo b1,ptrTo b2] h0 (.int .i64 (wy x)):=by
 have S:=Si a
 refine ae (n:=10) (rs:=[.tmp 4]) rfl Tryz.e267 rfl rfl rfl (lbt rfl) ?_
 simp only [BS,LB,ac,Nat.reduceLT,Nat.reduceEqDiff,F0k,b,c]
 exact⟨rfl,S.gr⟩
theorem zP{h0:Hp}(c:h0.t.Sized h0.n):Ret zM 249 [.int .i64 0,.int .i64 72057594037927936] h0 fun v h=>Gr h0 h/\ ∃b1 b2,v=.func (.func 267) #[] #[ptrTo b1,ptrTo b2]/\h.load b1 0 1=some [.int .i64 0]/\h.load b2 0 1=some [.int .i64 72057594037927936]:=by
 have S:=Si c
 refine ae (n:=6) (rs:=[.tmp 4]) rfl Tryz.e249 rfl rfl rfl (lbt rfl) ?_
 simp only [BS,Nat.reduceLT]
 refine ah (a8 (by intro x e;cases e)) S ?_;clear S;intro h b1 S a;simp only [ag]at S
 simp only [BS,Nat.reduceLT,Nat.reduceEqDiff,if_false]
 refine ah (a8 (by intro x e;cases e)) S ?_;clear S;intro h b2 S b;simp only [ag]at S
 simp only [BS,LB,ac,Nat.reduceLT,Nat.reduceEqDiff]
 exact⟨S.gr,b1,b2,rfl,S.ld m1 rfl,S.ld m0 rfl⟩
theorem oU{h0:Hp}(a:h0.t.Sized h0.n){x:Int}:bI zM 208 [.int .i64 x] h0 (.int .i64 (wy x)):=by
 have S:=Si a
 refine ae (n:=6) (rs:=[.tmp 2]) rfl Tryz.e208 rfl rfl rfl (lbt rfl) ?_
 simp only [BS,LB]
 refine step_ret (zP S.ok) ?_;intro v h ⟨g,b1,b2,e,e1,e2⟩;replace S:=S.call g;clear g
 subst e
 simp only [BS,LB,Nat.reduceLT,Nat.reduceEqDiff]
 refine an (zx S.ok e1 e2) ?_;intro h g;replace S:=S.call g;clear g
 simp only [BS,LB,ac,Nat.reduceLT,Nat.reduceEqDiff]
 exact S.gr
theorem oh{h0:Hp}(a:h0.t.Sized h0.n){x:Int}:bI zM 207 [.int .i64 x] h0 (.bool (decide (wy x<72057594037927936))):=by
 have S:=Si a
 refine ae (n:=6) (rs:=[.tmp 2]) rfl Tryz.e207 rfl rfl rfl (lbt rfl) ?_
 simp only [BS,LB,Nat.reduceLT,Nat.reduceEqDiff]
 refine an (oU S.ok) ?_;intro h g;replace S:=S.call g;clear g
 simp only [BS,LB,ac,Nat.reduceLT,Nat.reduceEqDiff]
 exact S.gr
theorem wy_bd(x:Int):0<=wy x/\wy x<=72057594037927936:=by unfold wy;omega
theorem wy_id{x:Int}(h0:0<=x)(a:x<=72057594037927936):wy x=x:=by unfold wy;omega
def lowD(v t:Int):Int:=if wy t<72057594037927936 then(if wy v<72057594037927936 then wy (wy v-wy t)else 72057594037927936)else 0
theorem low_ok{h0:Hp}(i:h0.t.Sized h0.n){v t:Int}:bI zM 162 [.int .i64 v,.int .i64 t] h0 (.int .i64 (lowD v t)):=by
 have S:=Si i
 have a:=wy_bd v
 have b:=wy_bd t
 have c:wy (wy v)=wy v:=wy_id a.1 a.2
 have d:wy (wy t)=wy t:=wy_id b.1 b.2
 have w:aq .i64 (wy v-wy t)=wy v-wy t:=by rw [wrap64]<;>omega
 refine ae (n:=21) (rs:=[.tmp 4]) rfl Tryz.e162 rfl rfl rfl (lbt rfl) ?_
 simp only [BS,LB,Nat.reduceLT,Nat.reduceEqDiff]
 refine an (oU S.ok) ?_;intro h g;replace S:=S.call g;clear g
 simp only [BS,LB,Nat.reduceLT,Nat.reduceEqDiff]
 refine an (oU S.ok) ?_;intro h g;replace S:=S.call g;clear g
 simp only [BS,LB,Nat.reduceLT,Nat.reduceEqDiff]
 refine an (oh S.ok) ?_;intro h g;replace S:=S.call g;clear g
 unfold lowD
 by_cases e:wy t<72057594037927936
 . simp only [BS,LB,Nat.reduceLT,Nat.reduceEqDiff,d,e]
   refine an (oh S.ok) ?_;intro h g;replace S:=S.call g;clear g
   by_cases f:wy v<72057594037927936
   . simp only [BS,LB,Nat.reduceLT,Nat.reduceEqDiff,c,f,w]
     refine an (oU S.ok) ?_;intro h g;replace S:=S.call g;clear g
     simp only [BS,LB,ac,Nat.reduceLT,Nat.reduceEqDiff]
     exact S.gr
   . simp only [BS,LB,ac,Nat.reduceLT,Nat.reduceEqDiff,c,f]
     exact S.gr
 . simp only [BS,LB,ac,Nat.reduceLT,Nat.reduceEqDiff,d,e]
   exact S.gr
theorem lift_ok{h0:Hp}(a:h0.t.Sized h0.n){v t:Int}:bI zM 164 [.int .i64 v,.int .i64 t] h0 (.int .i64 (lowD t v)):=by
 have S:=Si a
 refine ae (n:=8) (rs:=[.tmp 4]) rfl Tryz.e164 rfl rfl rfl (lbt rfl) ?_
 simp only [BS,LB,Nat.reduceLT,Nat.reduceEqDiff]
 refine an (low_ok S.ok) ?_;intro h g;replace S:=S.call g;clear g
 simp only [BS,LB,ac,Nat.reduceLT,Nat.reduceEqDiff]
 exact S.gr
end Go.Ab
end
section
namespace Go.Ab
structure YldP(E:Env)(lb:Nat)(J:Nat->Hp->List Nat->Prop)(n:Nat)(P:Nat->Hp->List Nat->List Value->Prop):Prop where
 lt: ∀i h F,J i h F->h.t.Sized h.n/\ ∀b∈F,b<h.n
 gr: ∀i h F h',J i h F->Gr h h'->J i h' F
 round: ∀i x h F,i<n->P i h F x->J i h F->jI E lb x h fun o h'=>o=.ret (.bool true)/\ ∃F',J (i+1) h' F'/\Mo (· ∈F) h h'/\ ∀b∈F',b∈F\/h.n<=b
def IterP(E:Env)(g:FuncId)(post:List Value)(h0:Hp)(D:Nat->Prop)(n:Nat)(P:Nat->Hp->List Nat->List Value->Prop):Prop:=
 ∀a J,YldP E a J n P-> ∀h F,ItS h0 D h F->J 0 h F->du E g (.func (.yield a) #[] #[]::post) none h fun o b c=>b=none/\ ∃u d,o=.ret u/\J n c d
theorem za{E:Env}{cx:Cx}{o:Oper}{l:Loc}{K:Ex->Loc->Hp->Prop}{h0 h:Hp}{D:Nat->Prop}{d i n:Nat}{J:Nat->Hp->List Nat->Prop}{P:Nat->Hp->List Nat->List Value->Prop}{x:List Value}{F:List Nat}
 (Y:YldP E d J n P) (s:ItS h0 D h F) (e:J i h F) (f:i<n) (g:P i h F x)
 (j: ∀h' F',J (i+1) h' F'->ItS h0 D h' F'->Mo (· ∈F) h h'->(∀b∈F',b∈F\/h.n<=b)->K .normal (l.put o.dst (.bool true)) h'):eA E cx o l K (some (.yield d x,h)):=by
 refine tR (Y.round i x h F f g e) ?_
 rintro q h' ⟨rfl,F',a,b,c⟩
 exact j h' F' a (s.mo b c (Y.lt _ _ _ a).2) b c
def encV(w:Value):List Value:=[w]
theorem xm(w:Value):(encV w).length=1:=rfl
theorem flat_encV(l:List Value):l.flatMap encV=l:=by
 induction l with
 |nil=>rfl
 |cons x l a=>rw [XN,a];rfl
def gu(h:Hp)(m:Nat)(v:Value)(n:Nat)(R:Nat->List Int):Prop:=
 ∃a:List Value,az h 1 encV v a/\a.length=n/\(∀c,ar v c->m<=c)/\ ∀i w,a[i]? =some w->az h 1 (encI .i64) w (R i)/\ ∀c,ar w c->m<=c
theorem gu.mo{M:Nat->Prop}{h h':Hp}{m n:Nat}{v:Value}{R:Nat->List Int}(r:gu h m v n R)(g:Mo M h h')(k: ∀b,M b->b<m):gu h' m v n R:=by
 obtain⟨l,a,b,c,d⟩:=r
 exact⟨l,a.mo g (fun x e f=>by have:=c x e;have:=k x f;omega),b,c,fun i w j=>⟨(d i w j).1.mo g (fun x e f=>by have:=(d i w j).2 x e;have:=k x f;omega),(d i w j).2⟩⟩
theorem gu.gr{h h':Hp}{m n:Nat}{v:Value}{R:Nat->List Int}(r:gu h m v n R)(g:Gr h h'):gu h' m v n R:=r.mo (M:=NoM) g.fr (fun _ h=>h.elim)
theorem gu.low{h:Hp}{m f n:Nat}{v:Value}{R:Nat->List Int}(r:gu h m v n R)(g:f<=m):gu h f v n R:=by
 obtain⟨k,a,b,c,d⟩:=r
 exact⟨k,a,b,fun x e=>Xh g (c x e),fun i w j=>⟨(d i w j).1,fun x e=>Xh g ((d i w j).2 x e)⟩⟩
theorem gu.row{h:Hp}{m n:Nat}{v:Value}{R:Nat->List Int}(r:gu h m v n R){i:Nat}(k:i<n): ∃w,(∃c o,idxS (some 1) v (.int .i64 (i:Nat))=some (.pointer (some ⟨c,o,none⟩))/\h.load c o 1=some [w])/\az h 1 (encI .i64) w (R i)/\ ∀c,ar w c->m<=c:=by
 obtain⟨e,a,b,c,d⟩:=r
 obtain⟨q,o,g,j⟩:=a.ix (kd:=.i64) xm (i:=i) (by omega)
 have f:e[i]? =some e[i]:=Xd (by omega)
 exact⟨e[i],⟨q,o,g,j⟩,(d i _ f).1,(d i _ f).2⟩
theorem flat_nat(l:List Nat):l.flatMap cI=(l.map fun(x:Nat)=>(x:Int)).flatMap (encI .i64):=by
 induction l with
 |nil=>rfl
 |cons x l a=>rw [XN,XB,XN,a];rfl
theorem sl_nat{h:Hp}{v:Value}{l:List Nat}(s:az h 1 cI v l):az h 1 (encI .i64) v (l.map fun(x:Nat)=>(x:Int)):=by
 rcases s with⟨rfl,rfl⟩|⟨b,o,s,c,rfl,a,d⟩
 . exact .inl ⟨rfl,rfl⟩
 . refine .inr ⟨b,o,s,c,by rw [Xx],by rw [Xx];exact a,?_⟩
   rw [Xx,d,flat_nat]
def gw(N:Nat)(l:List Int):Prop:=l.length<=16/\ ∀i,i<l.length->0<=l.getD i 0/\l.getD i 0<N/\l.getD i 0∉l.take i
theorem gw.push{N:Nat}{l:List Int}(h:gw N l)(g:l.length<16){x:Int}(h0:0<=x)(c:x<N)(d:x∉l):gw N (l++[x]):=by
 refine⟨by simp;omega,fun i f=>?_⟩
 simp at f
 by_cases e:i=l.length
 . subst e
   have b:(l++[x]).getD l.length 0=x:=by simp [zN]
   rw [b,List.take_left']
   exact⟨h0,c,d⟩
   rfl
 . have a:i<l.length:=by omega
   have b:(l++[x]).getD i 0=l.getD i 0:=by simp [zN,XS a]
   rw [b,List.take_append_of_le_length (by omega)]
   exact h.2 i a
theorem sI(N:Nat):gw N []:=⟨by simp,fun i a=>by simp at a⟩
structure TabAt(h:Hp)(m:Nat)(p:Value)(N:Nat)(marks:List Int)(R Q:Nat->List Int):Prop where
 ex: ∃b vM vT vF,p=ptrTo b/\Row h b [.int .i64 N,vM,vT,vF] 1/\az h 1 (encI .i64) vM marks/\gu h m vT marks.length R/\gu h m vF marks.length Q/\m<=b/\ ∀c,ar vM c->m<=c
theorem TabAt.mo{M:Nat->Prop}{h h':Hp}{m N:Nat}{p:Value}{a:List Int}{R Q:Nat->List Int}(t:TabAt h m p N a R Q)(g:Mo M h h')(c: ∀b,M b->b<m):TabAt h' m p N a R Q:=by
 obtain⟨b,f,i,j,e,k,l,n,q,r,d⟩:=t.ex
 exact⟨b,f,i,j,e,g.has (o:=.row _ 1) k (fun h=>by have:=c _ h;omega),l.mo g (fun x s u=>by have:=d x s;have:=c x u;omega),n.mo g c,q.mo g c,r,d⟩
theorem TabAt.gr{h h':Hp}{m N:Nat}{p:Value}{a:List Int}{R Q:Nat->List Int}(t:TabAt h m p N a R Q)(g:Gr h h'):TabAt h' m p N a R Q:=t.mo (M:=NoM) g.fr (fun _ h=>h.elim)
theorem gu.lenq{h h':Hp}{m n:Nat}{v:Value}{R:Nat->List Int}{e:TypeId}(r:gu h' m v n R):lenQ (some (.slice e)) h v=some (.val (.int .i64 n),h):=by
 have⟨c,a,b,_⟩:=r
 rw [<-b];exact a.lenq
end Go.Ab

end
section
namespace Go.Ab
open Go.Proofs
set_option maxRecDepth 10000
def Tryz.FD:=aj t1<|aj t2<|aj t3<|aj t4<|t218
def Tryz.FW:=aj t1<|aj t2<|aj t3<|aj t4<|aj t5<|aj t6<|aj Z3<|aj t33<|t196
def Tryz.FE:=aj t1<|aj t2<|aj t3<|aj t4<|aj t33<|aj t196<|t218
theorem may1_ok{h0:Hp}(v:h0.t.Sized h0.n){b5 b2 b c N k:Nat}{x:Int}{p:List (Value×Value×Nat)}{f:Int->Option Value}(q:h0.load b5 0 1=some [.map (some b)])(y:h0.load b2 0 1=some [.int .i64 N])(s:h0.get b=some (.map p c))(t:cN p c f)(hf:(f x).getD (.int .i64 0)=.int .i64 k)(E:k<=1)(A:b5≠b)(B:b2≠b):
 Ret zM 130 [.int .i64 x,ptrTo b5,ptrTo b2] h0 fun r h'=>Mo (· =b) h0 h'/\r=.bool (decide (x<0\/(N:Int)<=x\/k=1))/\ ∃es' c',h'.get b=some (.map es' c')/\cN es' c' (dg f x (some (.int .i64 (k+1:Nat)))):=by
 have S:=St.init1 v (o:=.map p c) s
 have u:=jy (x:=x) Tryz.t218.1 Tryz.t3.1 (z:=.int .i64 0) (by kernel_rfl) s t
 rw [hf]at u
 have w:aq .i64 ((k:Int)+1)=((k+1:Nat):Int):=by rw [wrap64]<;>omega
 refine ae (n:=22) (rs:=[.tmp 4]) rfl Tryz.e130 rfl rfl rfl (lbt rfl) ?_
 simp only [BS,LB,Nat.reduceLT,Nat.reduceEqDiff,FD,q,u,w]
 refine aC (S.mputI (i:=0) rfl Tryz.t218.1 Tryz.t3.1 t _) ?_
 clear S;rintro h ⟨_,es',c',a,S⟩
 simp only [LC]at S
 have j:=S.old q A
 have d:=S.old y B
 have l:h.get b=some (.map es' c'):=(S.own _ m0).2
 have e:=jy (x:=x) Tryz.t218.1 Tryz.t3.1 (z:=.int .i64 0) (by kernel_rfl) l a
 rw [show dg f x (some (.int .i64 ((k+1:Nat):Int))) x=some (.int .i64 ((k+1:Nat):Int)) by unfold dg;rw [if_pos rfl],Option.getD_some]at e
 by_cases g:x<0
 . simp only [BS,LB,ac,Nat.reduceLT,Nat.reduceEqDiff,g]
   exact⟨S.fr,by simp [g],es',c',l,a⟩
 . by_cases m:(N:Int)<=x
   . simp only [BS,LB,ac,Nat.reduceLT,Nat.reduceEqDiff,FD,d,g,m]
     exact⟨S.fr,by simp [m],es',c',l,a⟩
   . by_cases C:k=1
     . subst C
       simp only [BS,LB,ac,Nat.reduceLT,Nat.reduceEqDiff,Nat.reduceAdd,Int.reduceLT,Xb,FD,j,d,g,m,e]
       exact⟨S.fr,by simp,es',c',l,a⟩
     . have D:k=0:=by omega
       subst D
       simp only [BS,LB,ac,Nat.reduceLT,Nat.reduceEqDiff,Int.reduceLT,Xb,FD,j,d,g,m,e]
       exact⟨S.fr,by simp [g,m],es',c',l,a⟩
def OkAt(N:Nat)(l:List Int)(i:Nat):Prop:=0<=l.getD i 0/\l.getD i 0<N/\l.getD i 0∉l.take i
theorem mayIdx_ok {h0:Hp} (T:h0.t.Sized h0.n) {b5 b2 a N:Nat} {v:Value} {l:List Int} (y:az h0 1 (encI .i64) v l) (hl:l.length<=1000) (U:h0.load b5 0 1=some [.map (some a)]) (A:h0.load b2 0 1=some [.int .i64 N]) (J:h0.get a=some (.map [] 0)) (K:b5≠a) (L:b2≠a):
 Ret zM 209 [v,.func (.func 130) #[] #[ptrTo b5,ptrTo b2]] h0 fun r h'=>Mo (· =a) h0 h'/\ ∃z,r=.int .i64 z/\(0<=z↔ ¬ ∀i,i<l.length->OkAt N l i):=by
 have B: ∀c,ar v c-> ¬c=a:=by
  rintro c M rfl
  rcases y with⟨rfl,_⟩|⟨b,o,s,O,rfl,_,V⟩
  . exact M.elim
  . have:b=c:=M
    subst this
    simp [Hp.load,J]at V
 refine ae (n:=19) (rs:=[.tmp 4]) rfl Tryz.e209 rfl rfl rfl (lbt rfl) ?_
 simp only [BS,LB,Nat.reduceLT,Nat.reduceEqDiff,FW,y.lenq]
 refine cm (fun(i:Nat) g h=>i<=l.length/\Mo (· =a) h0 h/\(∃C c f,h.get a=some (.map C c)/\cN C c f/\ ∀x,f x=if x∈l.take i then some (.int .i64 1)else none)/\(∀j,j<i->OkAt N l j)/\g 0=v/\g 1=.func (.func 130) #[] #[ptrTo b5,ptrTo b2]/\g 7=.int .i64 l.length/\g 8=.int .i64 i) (fun i=>l.length-i) ?_ 0 _ _ ?_
 . intro i W g h ⟨hi,mo,⟨C,c,f,hg,MI,hf⟩,hok,r0,r1,r7,r8⟩
   by_cases hlt:i<l.length
   . obtain ⟨q,o,m,D⟩:=(y.mo mo B).ix (kd:=.i64) (eR .i64) hlt
     have w:aq .i64 ((i:Int)+1)=((i+1:Nat):Int):=by rw [wrap64]<;>omega
     have P: ∀{b:Nat} {x},b≠a->h0.load b 0 1=some x->h.load b 0 1=some x:=fun E e=>by
      have:=mo.get _ (bD mo.ok0 e) E
      unfold Hp.load at e⊢
      rw [this];exact e
     have F:l.getD i 0=l[i]:=by simp [zN,hlt]
     simp only [BS,LB,Nat.reduceLT,Nat.reduceEqDiff,FW,r0,r1,r7,r8,aW,hlt,m,D,encI]
     refine step_ret (may1_ok mo.ok (x:=l[i]) (N:=N) (k:=if l[i]∈l.take i then 1 else 0) (P K U) (P L A) hg MI (by rw [hf];split<;>rfl) (by split<;>omega) K L) ?_
     rintro r h' ⟨X,rfl,G,O,H,I⟩
     have p:=mo.trans X (fun _ h=>.inl h)
     by_cases d:OkAt N l i
     . have e:decide (l[i]<0\/(N:Int)<=l[i]\/(if l[i]∈l.take i then 1 else 0)=1)=false:=by
        obtain⟨Y,Z,Q⟩:=d
        rw [F]at Y Z Q
        rw [if_neg Q]
        simp;omega
       rw [e]
       have t:l[i]∉l.take i:=by have:=d.2.2;rwa [F]at this
       simp only [BS,LB,Nat.reduceLT,Nat.reduceEqDiff,r8,w]
       refine W (i+1) _ _ (by omega) ⟨by omega,p,⟨G,O,_,H,I,fun x=>?_⟩,fun j R=>?_,by simp [aa,r0],by simp [aa,r1,ab],by simp [aa,r7],by simp [aa]⟩
       . have S:=XC hlt
         rw [if_neg t]
         unfold dg
         by_cases u:x=l[i]
         . rw [if_pos u,if_pos (by rw [S];exact List.mem_append_right _ (List.mem_singleton.2 u))];rfl
         . rw [if_neg u,hf]
           have:x∈l.take (i+1)↔x∈l.take i:=by rw [S,List.mem_append,List.mem_singleton];exact⟨fun h=>h.resolve_right u,.inl⟩
           simp only [this]
       . by_cases A:j=i
         . subst A;exact d
         . exact hok j (by omega)
     . have e:decide (l[i]<0\/(N:Int)<=l[i]\/(if l[i]∈l.take i then 1 else 0)=1)=true:=by
        unfold OkAt at d
        rw [F]at d
        simp only [decide_eq_true_eq]
        by_cases t:l[i]∈l.take i
        . rw [if_pos t];exact .inr (.inr rfl)
        . by_cases a1:l[i]<0
          . exact .inl a1
          . by_cases a2:(N:Int)<=l[i]
            . exact .inr (.inl a2)
            . exact absurd ⟨by omega,by omega,t⟩ d
       rw [e]
       simp only [BS,LB,ac,Nat.reduceLT,Nat.reduceEqDiff]
       exact⟨p,_,rfl,by simp only [Int.natCast_nonneg,true_iff];exact fun h=>d (h i hlt)⟩
   . simp only [BS,LB,ac,Nat.reduceLT,Nat.reduceEqDiff,r7,r8,aW,hlt]
     exact⟨mo,_,rfl,⟨fun h=>by omega,fun h=>absurd (fun j R=>hok j (by omega)) h⟩⟩
 . exact⟨Xp _,Mo.refl T,⟨[],0,fun _=>none,J,kT,fun x=>by simp⟩,fun j R=>by omega,by simp [aa,bR],by simp [aa,bR,cJ,ab],by simp [aa],by simp [aa]⟩
noncomputable instance mayDec(N:Nat)(l:List Int):Decidable (gw N l):=Classical.propDecidable _
theorem mayCf_ok{h0:Hp}(g:h0.t.Sized h0.n){b5 b2 a N:Nat}{v:Value}{l:List Int}(j:az h0 1 (encI .i64) v l)(k:l.length<=1000)(m:h0.load b5 0 1=some [.map (some a)])(o:h0.load b2 0 1=some [.int .i64 N])(p:h0.get a=some (.map [] 0))(q:b5≠a)(s:b2≠a)(d:Decidable (∀i,i<l.length->OkAt N l i)):
 Ret zM 131 [v,.func (.func 130) #[] #[ptrTo b5,ptrTo b2]] h0 fun r h'=>Mo (· =a) h0 h'/\r=.bool (!decide (∀i,i<l.length->OkAt N l i)):=by
 refine ae (n:=9) (rs:=[.tmp 4]) rfl Tryz.e131 rfl rfl rfl (lbt rfl) ?_
 simp only [BS,LB,Nat.reduceLT,Nat.reduceEqDiff]
 refine step_ret (mayIdx_ok g j k m o p q s) ?_
 rintro r h ⟨e,z,rfl,f⟩
 by_cases c: ∀i,i<l.length->OkAt N l i
 . have b: ¬(0<=z):=fun h=>f.1 h c
   simp only [BS,LB,ac,Nat.reduceLT,Nat.reduceEqDiff,b]
   exact⟨e,by rw [decide_eq_true c];rfl⟩
 . have b:0<=z:=f.2 c
   simp only [BS,LB,ac,Nat.reduceLT,Nat.reduceEqDiff,b]
   exact⟨e,by rw [decide_eq_false c];rfl⟩
theorem may_ok{h0:Hp}(s:h0.t.Sized h0.n){v:Value}{l:List Int}{N:Nat}(g:az h0 1 (encI .i64) v l)(t:l.length<=1000):bI zM 53 [.int .i64 N,v] h0 (.bool (decide (gw N l))):=by
 have S:=Si s
 refine ae (n:=18) (rs:=[.tmp 4]) rfl Tryz.e53 rfl rfl rfl (lbt rfl) ?_
 simp only [BS,Nat.reduceLT]
 refine ah (a8 (by intro x e;cases e)) S ?_;clear S;intro h u S p;simp only [ag]at S
 simp only [BS]
 refine ah nG S ?_;clear S;intro h A S a
 simp only [BS,FE]
 refine ah aA S ?_;clear S;intro h w S q
 simp only [BS,LB,Nat.reduceLT,Nat.reduceEqDiff]
 refine aC (aI S (i:=0) rfl ?_ ?_ ?_ ono) ?_
 . exact(by simp only [FE])
 . exact(by exact fl_map)
 . exact Xu (lbt rfl)
 clear S;rintro h ⟨S,j⟩;clear j;simp only [LC,ag,lay,Xj,Xk,Nat.reduceAdd]at S
 by_cases f:l.length<=16
 . have k:(l.length:Int)<=16:=by omega
   simp only [BS,LB,Nat.reduceLT,Nat.reduceEqDiff,FE,g.lenq,k]
   have m:=S.apart
   simp only [keys,XB,XT,XG,List.append_nil,List.nodup_cons,Xo,Xi,or_false,not_or]at m
   have d:Decidable (∀i,i<l.length->OkAt N l i):=Classical.propDecidable _
   refine step_ret (mayCf_ok S.ok (g.gr S.gr) t (S.ld (b:=w) (o:=0) m0 rfl) (S.ld (b:=u) (o:=0) m2 rfl) (S.own _ m1).2 m.1.1 (fun e=>m.2.1 e.symm) d) ?_
   rintro r h ⟨j,rfl⟩
   have y:Gr h0 h:=(S.fr.trans j (fun c z=>.inr (by subst z;exact a)):Mo NoM h0 h).gr
   simp only [BS,LB,ac,Nat.reduceLT,Nat.reduceEqDiff]
   refine⟨?_,y⟩
   congr 1
   by_cases c: ∀i,i<l.length->OkAt N l i
   . have:gw N l:=⟨f,c⟩
     rw [decide_eq_true c,decide_eq_true this];rfl
   . have: ¬gw N l:=fun h=>c h.2
     rw [decide_eq_false c,decide_eq_false this];rfl
 . have k: ¬(l.length:Int)<=16:=by omega
   simp only [BS,LB,ac,Nat.reduceLT,Nat.reduceEqDiff,FE,g.lenq,k]
   exact⟨by have: ¬gw N l:=fun h=>f h.1;simp [this],S.gr⟩
def Tryz.FN:=aj t1<|aj t2<|aj t3<|aj t4<|aj t24<|aj Z0<|aj t32<|aj t33<|aj t129<|aj t138<|aj t189<|aj Z1<|Z22
def Tryz.FX:=aj t1<|aj t2<|aj t3<|aj t4<|aj t6<|aj Z3<|aj t24<|aj t59<|t127
open Classical in
noncomputable def dOf(B:List Arc)(s v:Nat):Nat:=if h: ∃x,IsD B s v x then h.choose else 0
theorem dOf_is{B:List Arc}{s v x:Nat}(h:IsD B s v x):dOf B s v=x/\IsD B s v (dOf B s v):=by
 have a: ∃x,IsD B s v x:=⟨x,h⟩
 have e:dOf B s v=a.choose:=by unfold dOf;rw [dif_pos a]
 rw [e]
 exact⟨a.choose_spec.uniq h,a.choose_spec⟩
noncomputable def rowD(B:List Arc)(N s:Nat):List Int:=(Xa N).map fun v=>((dOf B s v:Nat):Int)
theorem rowD_of{B:List Arc}{N s:Nat}{D:Nat->Nat}(h: ∀v,IsD B s v (D v)):((Xa N).map D).map (fun(x:Nat)=>(x:Int))=rowD B N s:=by
 unfold rowD
 rw [List.map_map]
 refine List.map_congr_left fun v _=>?_
 show((D v:Nat):Int)=_
 rw [(dOf_is (h v)).1]
def RunF(E:Env)(g:FuncId)(a:Gra)(pn:Value)(B:List Arc):Prop:= ∀(h:Hp) (c:Nat),h.t.Sized h.n->bL h c pn a-> ∀s,s<a.nodes->Ret E g [pn,.int .i64 (s:Nat)] h fun r b=>Gr h b/\tM b h.n r B s a.nodes
theorem runTo{a:Gra}(b:Good a){pn:Value}:RunF zM 58 a pn (seen a.arcs Arc.t Arc.s):=fun h f c d s e=>zH c b d e
theorem runFrom{a:Gra}(b:Good a){pn:Value}:RunF zM 59 a pn (seen a.arcs Arc.s Arc.t):=fun h f c d s e=>wG c b d e
def PRow(m:Nat)(R:Nat->List Int)(i:Nat)(h:Hp)(F:List Nat)(x:List Value):Prop:= ∃w,x=[w]/\az h 1 (encI .i64) w (R i)/\ ∀c,ar w c->m<=c/\c∉F
theorem rows_ok{h0:Hp}(f:h0.t.Sized h0.n){p d e:Value}(g:Fl p)(i:Fl d)(j:Fl e):Ret zM 57 [p,d,e] h0 fun v h'=>Gr h0 h'/\ ∃b1 b2 b3,v=.func (.func 133) #[] #[ptrTo b1,ptrTo b2,ptrTo b3]/\h0.n<=b1/\h0.n<=b2/\h0.n<=b3/\h'.load b1 0 1=some [d]/\h'.load b2 0 1=some [e]/\h'.load b3 0 1=some [p]:=by
 have S:=Si f
 refine ae (n:=8) (rs:=[.tmp 6]) rfl Tryz.e57 rfl rfl rfl (lbt rfl) ?_
 simp only [BS,Nat.reduceLT]
 refine ah (cP (by assumption)) S ?_;clear S;intro h b3 S a
 simp only [BS,Nat.reduceLT,Nat.reduceEqDiff,if_false]
 refine ah (cP (by assumption)) S ?_;clear S;intro h b1 S b
 simp only [BS,Nat.reduceLT,Nat.reduceEqDiff,if_false]
 refine ah (cP (by assumption)) S ?_;clear S;intro h b2 S c
 simp only [BS,LB,ac,Nat.reduceLT,Nat.reduceEqDiff]
 exact⟨S.gr,b1,b2,b3,rfl,b,c,a,S.ld m1 rfl,S.ld m0 rfl,S.ld m2 rfl⟩
theorem rows_it{hq h0:Hp}(x:hq.t.Sized hq.n)(d:h0.t.Sized h0.n)(M:iv hq h0)(N:hq.n<=h0.n){pn j:Value}{f:Gra}{y b1 b2 b3 m:Nat}(P:bL hq y pn f){l:List Int}(A:az h0 1 (encI .i64) j l)(z: ∀i,i<l.length->0<=l.getD i 0/\l.getD i 0<f.nodes)(C:l.length<1000){g:FuncId}{B:List Arc}(Q:RunF zM g f pn B)(R:m<=h0.n)
 (S:h0.load b1 0 1=some [j]) (T:h0.load b2 0 1=some [.func (.func g) #[] #[]]) (e3:h0.load b3 0 1=some [pn]):
 IterP zM 133 [ptrTo b1,ptrTo b2,ptrTo b3] h0 (fun c=>c=b1\/c=b2\/c=b3\/ar j c\/c<hq.n) l.length (PRow m fun i=>rowD B f.nodes (l.getD i 0).toNat):=by
 intro U J Y h F s t
 refine enter (n:=22) (rs:=[]) rfl Tryz.e133 rfl rfl rfl (lbt rfl) ?_
 have E:=s.load d S (.inl rfl)
 simp only [BS,LB,Nat.reduceLT,FN,E,A.lenq]
 refine cm (fun(i:Nat) e h=>i<=l.length/\ ∃F,ItS h0 (fun c=>c=b1\/c=b2\/c=b3\/ar j c\/c<hq.n) h F/\J i h F/\e 0=.func (.yield U) #[] #[]/\e 2=ptrTo b2/\e 3=ptrTo b3/\e 7=j/\e 8=.int .i64 l.length/\e 9=.int .i64 i) (fun i=>l.length-i) ?_ 0 _ _ ?_
 . clear E
   intro i V e h ⟨hi,F,s,t,r0,r2,r3,r7,r8,r9⟩
   by_cases hlt:i<l.length
   . obtain⟨c,o,p,q⟩:=(s.sl d A (fun b h=>.inr (.inr (.inr (.inl h))))).ix (kd:=.i64) (eR .i64) hlt
     have W:=s.load d T (.inr (.inl rfl))
     have X:=s.load d e3 (.inr (.inr (.inl rfl)))
     have Z:bL h y pn f:=P.keep x (s.keep M N (fun c u=>.inr (.inr (.inr (.inr u)))))
     have w:aq .i64 ((i:Int)+1)=((i+1:Nat):Int):=by rw [wrap64]<;>omega
     have G:l.getD i 0=l[i]:=by simp [zN,hlt]
     have H:=z i hlt
     rw [G]at H
     obtain⟨mk,r⟩: ∃k:Nat,l[i]=k:=⟨l[i].toNat,by omega⟩
     rw [r]at q H
     simp only [BS,LB,Nat.reduceLT,Nat.reduceEqDiff,FN,r0,r2,r3,r7,r8,r9,aW,hlt,p,q,encI,W,X]
     refine step_ret (Q h y s.ok Z mk (by omega)) ?_
     rintro v I ⟨K,L,vA,vO,D,aL,O,rfl,s1,s2,s3,t4,t5,t6,t7,t8⟩
     simp only [BS,LB,Nat.reduceLT,Nat.reduceEqDiff,FN]
     refine za Y (s.gr K) (Y.gr _ _ _ _ t K) (i:=i) hlt ⟨L,rfl,?_,fun c u=>⟨?_,fun hF=>?_⟩⟩ ?_
     . have:=sl_nat s1
       rw [rowD_of t5]at this
       show az I 1 _ L (rowD B f.nodes (l.getD i 0).toNat)
       rw [G,r]
       exact this
     . exact Xh R (Xh s.n (t6 c (.inl u)))
     . have h1:=s.lt c hF
       have I:=t6 c (.inl u)
       omega
     . intro h' F' a s' _ _
       simp only [BS,LB,Nat.reduceLT,Nat.reduceEqDiff,r9,w]
       exact V (i+1) _ _ (by omega) ⟨by omega,F',s',a,by simp [aa,r0],by simp [aa,r2,ab],by simp [aa,r3,ab],by simp [aa,r7],by simp [aa,r8],by simp [aa]⟩
   . simp only [BS,LB,Nat.reduceLT,r8,r9,aW,hlt]
     have:i=l.length:=by omega
     subst this
     exact dT (cq ⟨rfl,_,rfl,rfl,_,F,rfl,t⟩)
 . exact⟨by omega,F,s,t,by simp [aa,cL],by simp [aa,cL,ab],by simp [aa,cL,ab],by simp [aa],by simp [aa],by simp [aa]⟩
theorem wY {h0:Hp} (ok:h0.t.Sized h0.n) {g:FuncId} {post:Array Value} {D:Nat->Prop} {n m:Nat} {R:Nat->List Int} (it:IterP zM g post.toList h0 D n (PRow m R)) (E:m<=h0.n) (hn:n<1000):
 Ret zM 132 [.slice none 0 0,.func (.func g) #[] post] h0 fun r h'=>Gr h0 h'/\gu h' m r n R:=by
 have S:=Si ok
 refine ae (n:=13) (rs:=[.tmp 4]) rfl Tryz.e132 rfl rfl rfl (lbt rfl) ?_
 simp only [BS,Nat.reduceLT]
 refine ah (cP (by exact bF)) S ?_;clear S;intro h t S V
 simp only [BS,Nat.reduceLT,Nat.reduceEqDiff,if_false]
 replace S:=S.nilG (k:=1)
 have g0:=S.gr
 refine mF S (g:=g) (a:=#[]) (b:=post) (by simp [cu,aa,bR,cJ]) rfl rfl ?_
 intro W B v y af ai g2
 obtain⟨X,Y,y⟩: ∃X:gR,X=_/\St NoM h0 W [(v,.loop X),(B,.dfr),(t,.row [.slice none 0 0] 1)] [(.slice none 0 0,1,[])]:=⟨_,rfl,y⟩
 have hJ:YldP zM v (fun k h' F=> ∃(f:List Value) (p:Value),St NoM h0 h' [(v,.loop X),(B,.dfr),(t,.row [p] 1)] [(p,1,f)]/\f.length=k/\k<=n/\(∀i w,f[i]? =some w->az h' 1 (encI .i64) w (R i)/\ ∀c,ar w c->m<=c/\c∉F)/\F=keys [(v,.loop X),(B,.dfr),(t,.row [p] 1)] [(p,1,f)]) n (PRow m R):=by
  refine⟨?_,?_,?_⟩
  . rintro i h F ⟨f,p,S,_,_,_,rfl⟩;exact⟨S.ok,fun b z=>S.key_lt z⟩
  . rintro i h F h' ⟨f,p,S,a,b,c,rfl⟩ Z;exact⟨f,p,S.call Z,a,b,fun i w l=>⟨(c i w l).1.gr Z,(c i w l).2⟩,rfl⟩
  . rintro i x hR F hi ⟨w,rfl,sw,l⟩ ⟨f,p,S,a,b,c,rfl⟩
    subst Y
    obtain⟨I,J,K,rfl⟩:=sw.form
    have fw:Fl (.slice I J K):=bF
    refine mw (S.get m0) (by rw [Tryz.e132];rfl) rfl ?_
    have O:=S
    replace S:=S.base
    simp only [BS,LB,Nat.reduceLT,Nat.reduceEqDiff]
    refine kz S (i:=0) rfl rfl rfl rfl rfl ?_
    clear S;intro h S
    simp only [LC]at S
    simp only [BS,LB,Nat.reduceLT,Nat.reduceEqDiff,FX,S.ld (b:=t) (o:=0) m2 rfl]
    refine ah (cB (by exact Tryz.t59.1) (by exact Tryz.e24E) (by decide) (by rfl)) S ?_;clear S;intro h bs S ad;simp only [LC,bq,bV,ag,Nat.reduceMul,Nat.reduceAdd,Xy,Xr,Xt,XA]at S
    simp only [BS,LB,Nat.reduceLT,Nat.reduceEqDiff]
    have G:aP h 1 (.slice (some ⟨bs,0,none⟩) 1 1)=some (1,[.slice I J K]):=by simp only [aP];rw [S.lds (b:=bs) (o:=0) (n:=1*1) m0 (lbt rfl)];rfl
    replace S:=S.drop1
    refine gf (S.grow (j:=0) (m:=1) (new:=[.slice I J K]) rfl Tryz.t59.1 Tryz.e24E (by decide) Tryz.t59.2.2.2.2.2 G rfl (by decide) (by simp [fw.2.1]) (by simp;omega)) ?_
    clear S G;rintro h q S
    simp only [LC]at S
    have fv:Fl q:=by
     rcases(S.gown _ m0).1 with⟨e,_⟩|⟨_,_,e,_⟩
     . rw [show q=_ from e];exact bF
     . rw [show q=_ from e];exact bF
    simp only [BS,LB,Nat.reduceLT,Nat.reduceEqDiff]
    refine aC (aI S (i:=2) rfl Tryz.t59.2.2.1 fv (Xu (lbt rfl)) ono) ?_
    clear S;rintro h ⟨S,_⟩
    simp only [LC]at S
    simp only [BS]
    refine iu S (i:=0) rfl ?_
    clear S;intro h S
    simp only [LC]at S
    refine⟨rfl,_,⟨f++[.slice I J K],q,O.rebase S,by simp [a],by omega,fun j u C=>?_,rfl⟩,S.fr,S.key_new⟩
    have s:az h 1 (encI .i64) u (R j)/\ ∀c,ar u c->m<=c/\c∉keys [(v,Ob.dfr),(B,.dfr),(t,.dfr)] [(p,1,f)]/\c<hR.n:=by
     by_cases hj:j<f.length
     . rw [XS hj]at C
       obtain⟨N,A⟩:=c j u C
       exact⟨N.mo S.fr (fun x d H=>(A x d).2 H),fun x d=>⟨(A x d).1,(A x d).2,N.lt O.ok d⟩⟩
     . rw [List.getElem?_append_right (by omega)]at C
       have P:j-f.length=0:=by
        have:=(List.getElem?_eq_some_iff.1 C).1
        simp at this;omega
       rw [P]at C
       cases C
       have:j=f.length:=by omega
       subst this
       rw [a]
       exact⟨sw.mo S.fr (fun x d H=>(l x d).2 H),fun x d=>⟨(l x d).1,(l x d).2,sw.lt O.ok d⟩⟩
    refine⟨s.1,fun x d=>⟨(s.2 x d).1,fun E=>?_⟩⟩
    rcases S.key_new x E with h1|h1
    . exact(s.2 x d).2.1 h1
    . have:=(s.2 x d).2.2;omega
 refine eW (it v _ hJ W _ ?_ ⟨[],_,y,rfl,Xp _,fun i w l=>by simp at l,rfl⟩) ?_
 . exact⟨y.ok,y.fr.n,fun b z _=>y.gr.get b z,fun b z h=>by have:=(y.key_own z).elim (fun h=>h) (fun h=>h.elim);omega,fun b z=>y.key_lt z⟩
 . rintro o rc h' ⟨rfl,u,F,rfl,f,p,T,a,_,c,rfl⟩
   subst Y
   refine⟨_,T.get m0,Nat.zero_ne_one,?_⟩
   have Q: ∀i w,f[i]? =some w->az (h'.put v .dead) 1 (encI .i64) w (R i)/\ ∀c,ar w c->m<=c/\c∉keys [(B,.dfr),(t,.row [p] 1)] [(p,1,f)]:=fun i w l=>by
    obtain⟨N,A⟩:=c i w l
    exact⟨N.mo ((Mo.refl (M:=(· =v)) T.ok).put (.inr rfl) .dead) (fun x d e=>(A x d).2 (by rw [e];exact m0)),fun x d=>⟨(A x d).1,fun E=>(A x d).2 (List.mem_cons_of_mem _ E)⟩⟩
   replace T:=T.dead
   have S:=T
   show Run _ _ _ _ _ _ _ _
   simp only [BS,LB,Nat.reduceLT,Nat.reduceEqDiff,FX,S.ld (b:=t) (o:=0) m1 rfl]
   refine gW (ns [B] _ (L:=[(t,_)]) T.base fun h3 U=>⟨rfl,_,rfl,?_⟩)
   refine⟨(T.fr.trans U.fr (fun c hc=>(T.key_own hc).symm):Mo NoM h0 h3).gr,f,?_,a,fun x d=>?_,fun i w l=>⟨(Q i w l).1.mo U.fr (fun x d H=>((Q i w l).2 x d).2 H),fun x d=>((Q i w l).2 x d).1⟩⟩
   . exact(U.gown _ m0).1.sl (flat_encV f).symm xm (by decide)
   . exact Xh E (((T.gblk m0 d).1).elim (fun h=>h) (fun h=>h.elim))
theorem tV{h0:Hp}(a:h0.t.Sized h0.n){g:FuncId}{post:Array Value}{D:Nat->Prop}{n m:Nat}{R:Nat->List Int}(b:IterP zM g post.toList h0 D n (PRow m R))(c:m<=h0.n)(d:n<1000):
 Ret zM 56 [.func (.func g) #[] post] h0 fun r h'=>Gr h0 h'/\gu h' m r n R:=by
 have S:=Si a
 refine ae (n:=5) (rs:=[.tmp 2]) rfl Tryz.e56 rfl rfl rfl (lbt rfl) ?_
 simp only [BS,LB,Nat.reduceLT,Nat.reduceEqDiff]
 refine step_ret (wY S.ok b c d) ?_;intro v h ⟨g,L⟩;replace S:=S.call g;clear g
 simp only [BS,LB,ac,Nat.reduceLT,Nat.reduceEqDiff]
 exact⟨S.gr,L⟩
def Tryz.FY:=aj t1<|aj t2<|aj t3<|aj t4<|aj t24<|aj Z0<|aj t32<|aj t33<|aj t51<|aj t59<|aj t127<|aj t129<|aj Z4<|aj t189<|Z1
def Tryz.F0l:=aj t1<|aj t2<|aj t3<|aj t4<|aj t24<|aj t33<|aj t51<|aj t59<|Z4
def Tryz.F0m:=aj t1<|aj t2<|aj t3<|aj t4<|aj t24<|aj t33<|aj t51<|aj t59<|Z4
def Tryz.F0n:=aj t1<|aj t2<|aj t3<|aj t24<|aj t33<|aj t51<|aj t59<|Z4
def Tryz.F0o:=aj t1<|aj t2<|aj t3<|aj t24<|aj t33<|aj t51<|aj t59<|Z4
def Tryz.Ft:=aj t1<|aj t2<|aj t3<|aj t4<|aj t24<|aj t33<|aj t51<|aj t59<|aj Z4<|t312
noncomputable def toR(a:Gra)(l:List Int)(i:Nat):List Int:=rowD (seen a.arcs Arc.t Arc.s) a.nodes (l.getD i 0).toNat
noncomputable def frR(a:Gra)(l:List Int)(i:Nat):List Int:=rowD (seen a.arcs Arc.s Arc.t) a.nodes (l.getD i 0).toNat
theorem sX{h0:Hp}(z:h0.t.Sized h0.n){k:Gra}(q:Good k){pn F:Value}{G:Nat}(t:bL h0 G pn k){l:List Int}(o:az h0 1 (encI .i64) F l)(f:l.length<1000):
 Ret zM 12 [pn,F] h0 fun r h'=>Gr h0 h'/\((¬gw k.nodes l/\r=.pointer none)\/(gw k.nodes l/\TabAt h' h0.n r k.nodes l (toR k l) (frR k l))):=by
 have S:=Si z
 obtain⟨L,rfl⟩: ∃b,pn=ptrTo b:=by obtain⟨b,_,_,_,_,_,e,_⟩:=t.ex;exact⟨b,e⟩
 refine ae (n:=28) (rs:=[.tmp 4]) rfl Tryz.e12 rfl rfl rfl (lbt rfl) ?_
 simp only [BS,LB,Nat.reduceLT,Nat.reduceEqDiff,FY]
 refine an (cU S.ok (t.gr S.gr)) ?_;intro h g;replace S:=S.call g;clear g
 simp only [BS,LB,Nat.reduceLT,Nat.reduceEqDiff]
 refine an (may_ok S.ok (o.gr S.gr) (by omega)) ?_;intro h g;replace S:=S.call g;clear g
 by_cases j:gw k.nodes l
 . have A:decide (gw k.nodes l)=true:=decide_eq_true j
   simp only [BS,LB,Nat.reduceLT,Nat.reduceEqDiff,A]
   refine an (cU S.ok (t.gr S.gr)) ?_;intro h g;replace S:=S.call g;clear g
   simp only [BS,LB,Nat.reduceLT,Nat.reduceEqDiff]
   have H:=S.fr.n
   refine step_ret (lS S.ok (eR .i64) (o.gr S.gr) (by omega)) ?_;intro v h ⟨g,d,hM⟩;replace S:=S.call g;clear g
   rename Value=>vM
   obtain⟨M,N,O,rfl⟩:=d.form
   simp only [BS,LB,Nat.reduceLT,Nat.reduceEqDiff]
   refine step_ret (rows_ok S.ok dC o.fl gI) ?_;intro v h ⟨g,b1,b2,b3,e,q1,q2,q3,y1,y2,y3⟩;replace S:=S.call g;replace d:=d.gr g;clear g
   subst e
   simp only [BS,LB,Nat.reduceLT,Nat.reduceEqDiff]
   have y:=rows_it z S.ok S.gr.keep S.fr.n t (o.gr S.gr) (fun i u=>⟨(j.2 i u).1,(j.2 i u).2.1⟩) f (runTo q) (m:=h0.n) S.fr.n y1 y2 y3
   refine step_ret (tV S.ok y S.fr.n f) ?_;intro v h ⟨g,p⟩;replace S:=S.call g;replace d:=d.gr g;clear g
   rename Value=>vT
   obtain⟨P,Q,R,rfl⟩: ∃a n c,vT=.slice a n c:=by obtain⟨_,s,_⟩:=p;exact s.form
   clear y y1 y2 y3 q1 q2 q3
   simp only [BS,LB,Nat.reduceLT,Nat.reduceEqDiff]
   refine step_ret (rows_ok S.ok dC o.fl gI) ?_;intro v h ⟨g,b1,b2,b3,e,q1,q2,q3,y1,y2,y3⟩;replace S:=S.call g;replace d:=d.gr g;replace p:=p.gr g;clear g
   subst e
   simp only [BS,LB,Nat.reduceLT,Nat.reduceEqDiff]
   have y:=rows_it z S.ok S.gr.keep S.fr.n t (o.gr S.gr) (fun i u=>⟨(j.2 i u).1,(j.2 i u).2.1⟩) f (runFrom q) (m:=h0.n) S.fr.n y1 y2 y3
   refine step_ret (tV S.ok y S.fr.n f) ?_;intro v h ⟨g,L2⟩;replace S:=S.call g;replace d:=d.gr g;replace p:=p.gr g;clear g
   rename Value=>vF
   obtain⟨T,U,V,rfl⟩: ∃a n c,vF=.slice a n c:=by obtain⟨_,s,_⟩:=L2;exact s.form
   simp only [BS,LB,Nat.reduceLT,Nat.reduceEqDiff,Nat.reduceAdd,FY]
   have I:=S
   replace S:=S.base
   refine ah (a8 (by intro x e;cases e)) S ?_;clear S;intro h b S J;simp only [ag]at S
   simp only [BS,LB,ac,Nat.reduceLT,Nat.reduceEqDiff]
   have B:=S.fr
   have w:=d.mo B (fun c _ j=>by cases j)
   have C:=p.mo B (fun c j=>by cases j)
   have D:=L2.mo B (fun c j=>by cases j)
   have E:=S.row (b:=b) m0
   replace S:=I.rebase S
   exact⟨S.gr,.inr ⟨j,⟨b,_,_,_,rfl,E,w,C,D,(S.own _ m0).1.elim (fun h=>h) (fun h=>h.elim),fun c K=>Xh H (hM c K)⟩⟩⟩
 . have A:decide (gw k.nodes l)=false:=decide_eq_false j
   simp only [BS,LB,ac,Nat.reduceLT,Nat.reduceEqDiff,A]
   exact⟨S.gr,.inl j⟩
theorem me{h0:Hp}(a:h0.t.Sized h0.n){m N:Nat}{p:Value}{l:List Int}{R Q:Nat->List Int}(t:TabAt h0 m p N l R Q):bI zM 112 [p] h0 (.int .i64 N):=by
 have S:=Si a
 obtain⟨b,e,f,g,rfl,c,_⟩:=t.ex
 have d:=c.load1 (o:=0) rfl
 refine ae (n:=9) (rs:=[.tmp 2]) rfl Tryz.e112 rfl rfl rfl (lbt rfl) ?_
 simp only [BS,LB,ac,Nat.reduceLT,Nat.reduceEqDiff,F0l,d]
 exact S.gr
theorem jJ{h0:Hp}(d:h0.t.Sized h0.n){m N:Nat}{p:Value}{l:List Int}{R Q:Nat->List Int}(t:TabAt h0 m p N l R Q)(a:l.length<1000):Ret zM 81 [p] h0 fun r h'=>Gr h0 h'/\az h' 1 (encI .i64) r l/\ ∀c,ar r c->h0.n<=c:=by
 have S:=Si d
 obtain⟨b,j,k,q,rfl,e,f,_⟩:=t.ex
 have i:=e.load1 (o:=1) rfl
 refine ae (n:=10) (rs:=[.tmp 2]) rfl Tryz.e81 rfl rfl rfl (lbt rfl) ?_
 simp only [BS,LB,Nat.reduceLT,Nat.reduceEqDiff,F0m,i]
 refine step_ret (lS S.ok (eR .i64) f (by omega)) ?_;intro v h ⟨g,sl,hc⟩;replace S:=S.call g;clear g
 simp only [BS,LB,ac,Nat.reduceLT,Nat.reduceEqDiff]
 exact⟨S.gr,sl,hc⟩
def ib(N n:Nat)(R:Nat->List Int)(i v:Int):Int:=if 0<=i/\i<n/\0<=v/\v<N then(R i.toNat).getD v.toNat 0 else 72057594037927936
theorem tos_ok{h0:Hp}(a:h0.t.Sized h0.n){m N:Nat}{p:Value}{l:List Int}{R Q:Nat->List Int}(t:TabAt h0 m p N l R Q):Ret zM 224 [p] h0 fun r h'=>Gr h0 h'/\gu h' m r l.length R:=by
 have S:=Si a
 obtain⟨b,e,f,g,rfl,c,_,L,_⟩:=t.ex
 have d:=c.load1 (o:=2) rfl
 refine ae (n:=7) (rs:=[.tmp 2]) rfl Tryz.e224 rfl rfl rfl (lbt rfl) ?_
 simp only [BS,LB,ac,Nat.reduceLT,Nat.reduceEqDiff,F0n,d]
 exact⟨S.gr,L⟩
theorem froms_ok{h0:Hp}(a:h0.t.Sized h0.n){m N:Nat}{p:Value}{l:List Int}{R Q:Nat->List Int}(t:TabAt h0 m p N l R Q):Ret zM 225 [p] h0 fun r h'=>Gr h0 h'/\gu h' m r l.length Q:=by
 have S:=Si a
 obtain⟨b,e,f,g,rfl,c,_,_,L,_⟩:=t.ex
 have d:=c.load1 (o:=3) rfl
 refine ae (n:=7) (rs:=[.tmp 2]) rfl Tryz.e225 rfl rfl rfl (lbt rfl) ?_
 simp only [BS,LB,ac,Nat.reduceLT,Nat.reduceEqDiff,F0o,d]
 exact⟨S.gr,L⟩
theorem xW{h0:Hp}(y:h0.t.Sized h0.n){m N:Nat}{p:Value}{l:List Int}{R Q W:Nat->List Int}(t:TabAt h0 m p N l R Q){g:FuncId}(z: ∀h,Gr h0 h->Ret zM g [p] h fun r h'=>Gr h h'/\gu h' m r l.length W)(A: ∀i,i<l.length->(W i).length=N){i v:Int}:
 bI zM 223 [p,.func (.func g) #[p] #[],.int .i64 i,.int .i64 v] h0 (.int .i64 (ib N l.length W i v)):=by
 have S:=Si y
 obtain⟨b,H,I,J,rfl,s,e,_⟩:=t.ex
 have u:=s.load1 (o:=0) rfl
 have f:=s.load1 (o:=1) rfl
 unfold ib
 refine ae (n:=44) (rs:=[.tmp 8]) rfl Tryz.e223 rfl rfl rfl (lbt rfl) ?_
 by_cases a:i<0
 . rw [if_neg (by omega)]
   simp only [BS,LB,ac,Nat.reduceLT,Nat.reduceEqDiff,Ft,a]
   exact S.gr
 . by_cases j:(l.length:Int)<=i
   . rw [if_neg (by omega)]
     simp only [BS,LB,ac,Nat.reduceLT,Nat.reduceEqDiff,Ft,f,a,j,e.lenq]
     exact S.gr
   . by_cases q:v<0
     . rw [if_neg (by omega)]
       simp only [BS,LB,ac,Nat.reduceLT,Nat.reduceEqDiff,Ft,f,a,j,q,e.lenq]
       exact S.gr
     . by_cases x:(N:Int)<=v
       . rw [if_neg (by omega)]
         simp only [BS,LB,ac,Nat.reduceLT,Nat.reduceEqDiff,Ft,u,f,a,j,q,x,e.lenq]
         exact S.gr
       . rw [if_pos (by omega)]
         obtain⟨d,rfl⟩:=Xf (show 0<=i by omega)
         obtain⟨k,rfl⟩:=Xf (show 0<=v by omega)
         simp only [BS,LB,Nat.reduceLT,Nat.reduceEqDiff,Ft,u,f,a,j,q,x,e.lenq]
         refine step_ret (z _ S.gr) ?_;intro v h ⟨g,L⟩;replace S:=S.call g;clear g
         obtain⟨w,⟨c,o,B,C⟩,sw,_⟩:=L.row (i:=d) (by omega)
         have D:=A d (by omega)
         obtain⟨K,M,E,F⟩:=sw.ix (kd:=.i64) (eR .i64) (i:=k) (by omega)
         have G:(W d).getD k 0=(W d)[k]:=by simp [zN,show k<(W d).length by omega]
         simp only [BS,LB,ac,Nat.reduceLT,Nat.reduceEqDiff,Ft,B,C,E,F,encI,XO,G]
         exact S.gr
theorem xI{h0:Hp}(a:h0.t.Sized h0.n){m N:Nat}{p:Value}{l:List Int}{R Q:Nat->List Int}(t:TabAt h0 m p N l R Q)(b: ∀i,i<l.length->(R i).length=N){i v:Int}:bI zM 161 [p,.int .i64 i,.int .i64 v] h0 (.int .i64 (ib N l.length R i v)):=by
 have S:=Si a
 refine ae (n:=13) (rs:=[.tmp 6]) rfl Tryz.e161 rfl rfl rfl (lbt rfl) ?_
 simp only [BS,LB,Nat.reduceLT,Nat.reduceEqDiff]
 refine an (xW S.ok t (fun h g=>tos_ok g.ok (t.gr g)) b) ?_;intro h g;replace S:=S.call g;clear g
 simp only [BS,LB,ac,Nat.reduceLT,Nat.reduceEqDiff]
 exact S.gr
theorem tX{h0:Hp}(a:h0.t.Sized h0.n){m N:Nat}{p:Value}{l:List Int}{R Q:Nat->List Int}(t:TabAt h0 m p N l R Q)(b: ∀i,i<l.length->(Q i).length=N){i v:Int}:bI zM 163 [p,.int .i64 i,.int .i64 v] h0 (.int .i64 (ib N l.length Q i v)):=by
 have S:=Si a
 refine ae (n:=13) (rs:=[.tmp 6]) rfl Tryz.e163 rfl rfl rfl (lbt rfl) ?_
 simp only [BS,LB,Nat.reduceLT,Nat.reduceEqDiff]
 refine an (xW S.ok t (fun h g=>froms_ok g.ok (t.gr g)) b) ?_;intro h g;replace S:=S.call g;clear g
 simp only [BS,LB,ac,Nat.reduceLT,Nat.reduceEqDiff]
 exact S.gr
def Tryz.FZ:=aj t1<|aj t2<|aj t3<|aj t4<|aj t33<|aj t51<|aj t59<|aj Z4<|aj t215<|t246
def Tryz.F00:=aj t1<|aj t2<|aj t3<|aj t4<|aj t5<|aj t6<|aj t33<|aj t51<|aj t59<|Z4
theorem gk{h0:Hp}(a:h0.t.Sized h0.n){m N:Nat}{p:Value}{l:List Int}{R Q:Nat->List Int}(t:TabAt h0 m p N l R Q){v:Int}:bI zM 124 [p,.int .i64 v] h0 (.bool (decide (0<=v/\v<N))):=by
 have S:=Si a
 refine ae (n:=13) (rs:=[.tmp 4]) rfl Tryz.e124 rfl rfl rfl (lbt rfl) ?_
 by_cases c:0<=v
 . simp only [BS,LB,Nat.reduceLT,Nat.reduceEqDiff,c]
   refine an (me S.ok (t.gr S.gr)) ?_;intro h g;replace S:=S.call g;clear g
   simp only [BS,LB,ac,Nat.reduceLT,Nat.reduceEqDiff]
   exact S.gr
 . simp only [BS,LB,ac,Nat.reduceLT,Nat.reduceEqDiff,c]
   exact⟨by simp,S.gr⟩
theorem wayTo_ok{h0:Hp}(b:h0.t.Sized h0.n){m N:Nat}{p:Value}{l:List Int}{R Q:Nat->List Int}(t:TabAt h0 m p N l R Q)(a: ∀i,i<l.length->(R i).length=N){i v w:Int}:
 bI zM 160 [.func (.func 161) #[p] #[],.func (.func 162) #[] #[],.int .i64 i,.int .i64 v,.int .i64 w] h0 (.int .i64 (lowD (ib N l.length R i v) (ib N l.length R i w))):=by
 have S:=Si b
 refine ae (n:=21) (rs:=[.tmp 10]) rfl Tryz.e160 rfl rfl rfl (lbt rfl) ?_
 simp only [BS,LB,Nat.reduceLT,Nat.reduceEqDiff]
 refine an (xI S.ok (t.gr S.gr) a) ?_;intro h g;replace S:=S.call g;clear g
 simp only [BS,LB,Nat.reduceLT,Nat.reduceEqDiff]
 refine an (xI S.ok (t.gr S.gr) a) ?_;intro h g;replace S:=S.call g;clear g
 simp only [BS,LB,Nat.reduceLT,Nat.reduceEqDiff]
 refine an (low_ok S.ok) ?_;intro h g;replace S:=S.call g;clear g
 simp only [BS,LB,ac,Nat.reduceLT,Nat.reduceEqDiff]
 exact S.gr
theorem wayFr_ok{h0:Hp}(b:h0.t.Sized h0.n){m N:Nat}{p:Value}{l:List Int}{R Q:Nat->List Int}(t:TabAt h0 m p N l R Q)(a: ∀i,i<l.length->(Q i).length=N){i v w:Int}:
 bI zM 160 [.func (.func 163) #[p] #[],.func (.func 164) #[] #[],.int .i64 i,.int .i64 v,.int .i64 w] h0 (.int .i64 (lowD (ib N l.length Q i w) (ib N l.length Q i v))):=by
 have S:=Si b
 refine ae (n:=21) (rs:=[.tmp 10]) rfl Tryz.e160 rfl rfl rfl (lbt rfl) ?_
 simp only [BS,LB,Nat.reduceLT,Nat.reduceEqDiff]
 refine an (tX S.ok (t.gr S.gr) a) ?_;intro h g;replace S:=S.call g;clear g
 simp only [BS,LB,Nat.reduceLT,Nat.reduceEqDiff]
 refine an (tX S.ok (t.gr S.gr) a) ?_;intro h g;replace S:=S.call g;clear g
 simp only [BS,LB,Nat.reduceLT,Nat.reduceEqDiff]
 refine an (lift_ok S.ok) ?_;intro h g;replace S:=S.call g;clear g
 simp only [BS,LB,ac,Nat.reduceLT,Nat.reduceEqDiff]
 exact S.gr
def mg(N n:Nat)(R Q:Nat->List Int)(i v w:Int):Int:=if(0<=v/\v<N)/\(0<=w/\w<N)/\0<=i/\i<n then max (lowD (ib N n R i v) (ib N n R i w)) (lowD (ib N n Q i w) (ib N n Q i v))else 0
theorem uM{h0:Hp}(f:h0.t.Sized h0.n){m N:Nat}{p:Value}{l:List Int}{R Q:Nat->List Int}(t:TabAt h0 m p N l R Q)(j: ∀i,i<l.length->(R i).length=N)(k: ∀i,i<l.length->(Q i).length=N)(d:l.length<1000){i v w:Int}:
 bI zM 85 [p,.int .i64 i,.int .i64 v,.int .i64 w] h0 (.int .i64 (mg N l.length R Q i v w)):=by
 have S:=Si f
 by_cases a:0<=v/\v<N
 . by_cases b:0<=w/\w<N
   . by_cases c:i<0
     . rw [show mg N l.length R Q i v w=0 from if_neg (by omega)]
       refine ae (n:=43) (rs:=[.tmp 8]) rfl X6 rfl rfl rfl (lbt rfl) ?_
       simp only [BS,LB,Nat.reduceLT,Nat.reduceEqDiff]
       refine an (gk S.ok (t.gr S.gr)) ?_;intro h g;replace S:=S.call g;clear g
       simp only [BS,LB,Nat.reduceLT,Nat.reduceEqDiff,a]
       refine an (gk S.ok (t.gr S.gr)) ?_;intro h g;replace S:=S.call g;clear g
       simp only [BS,LB,ac,Nat.reduceLT,Nat.reduceEqDiff,b,c]
       exact S.gr
     . by_cases e:(l.length:Int)<=i
       . rw [show mg N l.length R Q i v w=0 from if_neg (by omega)]
         refine ae (n:=43) (rs:=[.tmp 8]) rfl X6 rfl rfl rfl (lbt rfl) ?_
         simp only [BS,LB,Nat.reduceLT,Nat.reduceEqDiff]
         refine an (gk S.ok (t.gr S.gr)) ?_;intro h g;replace S:=S.call g;clear g
         simp only [BS,LB,Nat.reduceLT,Nat.reduceEqDiff,a]
         refine an (gk S.ok (t.gr S.gr)) ?_;intro h g;replace S:=S.call g;clear g
         simp only [BS,LB,Nat.reduceLT,Nat.reduceEqDiff,b,c]
         refine step_ret (jJ S.ok (t.gr S.gr) d) ?_;intro v h ⟨g,slM,_⟩;replace S:=S.call g;clear g
         simp only [BS,LB,ac,Nat.reduceLT,Nat.reduceEqDiff,FZ,e,slM.lenq]
         exact S.gr
       . rw [show mg N l.length R Q i v w=max (lowD (ib N l.length R i v) (ib N l.length R i w)) (lowD (ib N l.length Q i w) (ib N l.length Q i v))from if_pos ⟨a,b,by omega,by omega⟩]
         refine ae (n:=43) (rs:=[.tmp 8]) rfl X6 rfl rfl rfl (lbt rfl) ?_
         simp only [BS,LB,Nat.reduceLT,Nat.reduceEqDiff]
         refine an (gk S.ok (t.gr S.gr)) ?_;intro h g;replace S:=S.call g;clear g
         simp only [BS,LB,Nat.reduceLT,Nat.reduceEqDiff,a]
         refine an (gk S.ok (t.gr S.gr)) ?_;intro h g;replace S:=S.call g;clear g
         simp only [BS,LB,Nat.reduceLT,Nat.reduceEqDiff,b,c]
         refine step_ret (jJ S.ok (t.gr S.gr) d) ?_;intro v h ⟨g,slM,_⟩;replace S:=S.call g;clear g
         simp only [BS,LB,Nat.reduceLT,Nat.reduceEqDiff,FZ,e,slM.lenq]
         refine an (wayTo_ok S.ok (t.gr S.gr) j) ?_;intro h g;replace S:=S.call g;clear g
         simp only [BS,LB,Nat.reduceLT,Nat.reduceEqDiff]
         refine an (wayFr_ok S.ok (t.gr S.gr) k) ?_;intro h g;replace S:=S.call g;clear g
         simp only [BS,LB,ac,Nat.reduceLT,Nat.reduceEqDiff]
         exact S.gr
   . rw [show mg N l.length R Q i v w=0 from if_neg (fun h=>b h.2.1)]
     refine ae (n:=43) (rs:=[.tmp 8]) rfl X6 rfl rfl rfl (lbt rfl) ?_
     simp only [BS,LB,Nat.reduceLT,Nat.reduceEqDiff]
     refine an (gk S.ok (t.gr S.gr)) ?_;intro h g;replace S:=S.call g;clear g
     simp only [BS,LB,Nat.reduceLT,Nat.reduceEqDiff,a]
     refine an (gk S.ok (t.gr S.gr)) ?_;intro h g;replace S:=S.call g;clear g
     simp only [BS,LB,ac,Nat.reduceLT,Nat.reduceEqDiff,b]
     exact S.gr
 . rw [show mg N l.length R Q i v w=0 from if_neg (fun h=>a h.1)]
   refine ae (n:=43) (rs:=[.tmp 8]) rfl X6 rfl rfl rfl (lbt rfl) ?_
   simp only [BS,LB,Nat.reduceLT,Nat.reduceEqDiff]
   refine an (gk S.ok (t.gr S.gr)) ?_;intro h g;replace S:=S.call g;clear g
   simp only [BS,LB,ac,Nat.reduceLT,Nat.reduceEqDiff,a]
   exact S.gr
def jQ(N n:Nat)(R Q:Nat->List Int)(v w:Int)(l:List Int):Int:=l.foldl (fun b i=>max b (mg N n R Q i v w)) 0
theorem ym{h0:Hp}(q:h0.t.Sized h0.n){m N:Nat}{p:Value}{l:List Int}{R Q:Nat->List Int}(t:TabAt h0 m p N l R Q)(r: ∀i,i<l.length->(R i).length=N)(s: ∀i,i<l.length->(Q i).length=N)(u:l.length<1000){e:Value}{a:List Int}(j:az h0 1 (encI .i64) e a)(x:a.length<1000){v w:Int}:
 bI zM 129 [p,e,.int .i64 v,.int .i64 w] h0 (.int .i64 (jQ N l.length R Q v w a)):=by
 have S:=Si q
 refine ae (n:=26) (rs:=[.tmp 8]) rfl Tryz.e129 rfl rfl rfl (lbt rfl) ?_
 simp only [BS,LB,Nat.reduceLT,Nat.reduceEqDiff,F00,j.lenq]
 refine cm (fun(k:Nat) b h=>k<=a.length/\Gr h0 h/\b 0=p/\b 2=.int .i64 v/\b 3=.int .i64 w/\b 8=.int .i64 (jQ N l.length R Q v w (a.take k))/\b 11=e/\b 12=.int .i64 a.length/\b 13=.int .i64 k) (fun k=>a.length-k) ?_ 0 _ _ ?_
 . clear S
   intro k y b h ⟨hk,g0,r0,r2,r3,r8,r11,r12,r13⟩
   have z:aq .i64 ((k:Int)+1)=((k+1:Nat):Int):=by rw [wrap64]<;>omega
   by_cases hlt:k<a.length
   . obtain⟨c,o,d,f⟩:=(j.gr g0).ix (kd:=.i64) (eR .i64) hlt
     simp only [BS,LB,Nat.reduceLT,Nat.reduceEqDiff,F00,r0,r2,r3,r8,r11,r12,r13,aW,hlt,d,f,encI]
     refine an (uM g0.ok (t.gr g0) r s u) ?_
     intro h g
     simp only [BS,LB,Nat.reduceLT,Nat.reduceEqDiff,r13,z]
     refine y (k+1) _ _ (by omega) ⟨by omega,g0.trans g,by simp [aa,r0],by simp [aa,r2],by simp [aa,r3],?_,by simp [aa,r11],by simp [aa,r12],by simp [aa]⟩
     rw [XC hlt]
     unfold jQ
     rw [List.foldl_append]
     simp [aa]
   . simp only [BS,LB,ac,Nat.reduceLT,Nat.reduceEqDiff,r8,r12,r13,aW,hlt]
     rw [XW (by omega)]
     exact⟨rfl,g0⟩
 . exact⟨Xp _,S.gr,by simp [aa,bR],by simp [aa,bR,cJ],by simp [aa,bR,cJ],by simp [aa,jQ],by simp [aa],by simp [aa],by simp [aa]⟩
theorem wI(B:List Arc)(N s:Nat):(rowD B N s).length=N:=by simp [rowD]
end Go.Ab
end
section
namespace Go.Ab
def swJ(l:List Nat)(j:Nat):List Nat:=(l.set j (l.getD (j-1) 0)).set (j-1) (l.getD j 0)
def bub(key:Nat->Int):Nat->List Nat->List Nat
 |0,l=>l
 |j+1,l=>if key (l.getD j 0)<key (l.getD (j+1) 0)then bub key j (swJ l (j+1))else l
def ir(key:Nat->Int)(k:Nat)(l:List Nat):List Nat:=(Xa k).foldl (fun l i=>bub key (i+1) l) l
theorem oO(key:Nat->Int)(k:Nat)(l:List Nat):ir key (k+1) l=bub key (k+1) (ir key k l):=by
 unfold ir;rw [List.range_succ,List.foldl_append];rfl
theorem swJ_len(l:List Nat)(j:Nat):(swJ l j).length=l.length:=by simp [swJ]
theorem yO{l:List Nat}{j:Nat}(h:j<l.length):(swJ l j).Perm l:=by
 have:((l.set j l[j-1]).set (j-1) l[j]).Perm l:=List.set_set_perm h (by omega)
 unfold swJ
 rwa [show l.getD (j-1) 0=l[j-1] by simp [zN,show j-1<l.length by omega],show l.getD j 0=l[j] by simp [zN,h]]
theorem yo{key:Nat->Int}: ∀(j:Nat) {l:List Nat},j<l.length->(bub key j l).Perm l
 |0,l,_=>.refl _
 | j+1,l,h=>by
   unfold bub
   split
   . exact(yo j (by rw [swJ_len];omega)).trans (yO h)
   . exact .refl _
theorem oL{key:Nat->Int}{l:List Nat}: ∀(k:Nat),k<l.length\/k=0->(ir key k l).Perm l
 |0,_=>.refl _
 | k+1,h=>by
   have a:=oL (key:=key) (l:=l) k (by omega)
   rw [oO]
   exact(yo (k+1) (by rw [a.length_eq];omega)).trans a
end Go.Ab

end
section
namespace Go.Ab
open Go.Proofs
set_option maxRecDepth 10000
def Tryz.FO:=aj t1<|aj t2<|aj t3<|aj t4<|aj t5<|aj t6<|aj t33<|t161
def Tryz.F0p:=aj t3<|aj t33<|t161
def Tryz.F0q:=aj t1<|aj t2<|aj t3<|aj t4<|t33
def Tryz.F0r:=aj t1<|aj t2<|aj t3<|aj t33<|t161
def gp(l:List Nat):List Value:=l.map fun(x:Nat)=>.int .i64 x
theorem uD(l:List Nat):l.flatMap cI=gp l:=by
 unfold gp;rw [XY,List.map_eq_flatMap,XY];rfl
theorem pD(l:List Nat):(gp l).length=l.length:=by simp [gp]
theorem natM_at{l:List Nat}{i:Nat}(h:i<l.length):(gp l)[i]? =some (.int .i64 (l.getD i 0:Nat)):=by
 unfold gp;rw [XP,Xd h];simp [zN,h]
theorem yM(l:List Nat)(i x:Nat):(gp l).set i (.int .i64 (x:Nat))=gp (l.set i x):=by unfold gp;rw [List.map_set]
theorem yN{a b:Int}:jZ a b<0↔a<b:=by
 unfold jZ
 split
 . omega
 . split<;>omega
def CmpF(E:Env)(hq:Hp)(g:FuncId)(post:List Value)(N:Nat)(key:Nat->Int):Prop:= ∀h,Gr hq h-> ∀i j,i<N->j<N->bI E g ([.int .i64 (i:Nat),.int .i64 (j:Nat)]++post) h (.int .i64 (jZ (key j) (key i)))
theorem zQ {hq h0:Hp} (z:Gr hq h0) {b N:Nat} {xs:List Nat} {g:FuncId} {post:Array Value} {key:Nat->Int} (p:Row h0 b (gp xs) 1) (Q:hq.n<=b) (R:xs.length<=20) (A: ∀x∈xs,x<N) (F:CmpF zM hq g post.toList N key):
 Ret zM 255 [.slice (some ⟨b,0,some 1⟩) xs.length xs.length,.int .i64 0,.int .i64 (xs.length:Nat),.func (.func g) #[] post] h0 fun _ h'=>Mo (· =b) h0 h'/\Row h' b (gp (ir key (xs.length-1) xs)) 1:=by
 have G:=z.ok
 have S:=St.init1 G (o:=.row _ 1) p
 have T:aq .i64 (0+1)=((0+1:Nat):Int):=rfl
 refine ae (n:=53) (rs:=[]) rfl Tryz.e255 rfl rfl rfl (lbt rfl) ?_
 simp only [BS,LB,Nat.reduceLT,Nat.reduceEqDiff,Int.reduceAdd]
 refine cm (fun(i:Nat) a h=>i<=xs.length-1/\St (· =b) h0 h [(b,.row (gp (ir key i xs)) 1)] []/\a 0=.slice (some ⟨b,0,some 1⟩) xs.length xs.length/\a 1=.int .i64 0/\a 2=.int .i64 (xs.length:Nat)/\a 3=.func (.func g) #[] post/\a 8=.int .i64 ((i+1:Nat):Int)) (fun i=>xs.length-i) ?_ 0 _ _ ?_
 . clear S
   intro i B a h ⟨hi,S,r0,r1,r2,r3,r8⟩
   by_cases hlt:i+1<xs.length
   . simp only [BS,LB,Nat.reduceLT,Nat.reduceEqDiff,r2,r8,aW,hlt]
     have r:=oL (key:=key) (l:=xs) i (.inl (by omega))
     refine cm (fun(j:Nat) a h=>j<=i+1/\ ∃l,l.Perm xs/\bub key j l=bub key (i+1) (ir key i xs)/\St (· =b) h0 h [(b,.row (gp l) 1)] []/\a 0=.slice (some ⟨b,0,some 1⟩) xs.length xs.length/\a 1=.int .i64 0/\a 2=.int .i64 (xs.length:Nat)/\a 3=.func (.func g) #[] post/\a 8=.int .i64 ((i+1:Nat):Int)/\a 9=.int .i64 (j:Nat)) (fun j=>j) ?_ (i+1) _ _ ?_
     . clear S r0 r1 r2 r3 r8
       intro j s a h ⟨hj,l,pm,hbub,S,r0,r1,r2,r3,r8,r9⟩
       have U:=pm.length_eq
       have C:aq .i64 (((i+1:Nat):Int)+1)=((i+1+1:Nat):Int):=by rw [wrap64]<;>omega
       by_cases H:0<j
       . obtain⟨k,rfl⟩: ∃k,j=k+1:=⟨j-1,by omega⟩
         have D:(0:Int)<((k+1:Nat):Int):=by omega
         have t:aq .i64 (((k+1:Nat):Int)-1)=(k:Int):=by rw [wrap64]<;>omega
         have E:k+1<xs.length:=by omega
         have u:k<xs.length:=by omega
         have d:=(S.row (b:=b) m0).load1 (natM_at (i:=k+1) (by omega))
         have f:=(S.row (b:=b) m0).load1 (natM_at (i:=k) (by omega))
         have I:l.getD (k+1) 0<N:=by
          refine A _ (pm.mem_iff.1 ?_)
          rw [zN,Xd (by omega)];exact XU _
         have J:l.getD k 0<N:=by
          refine A _ (pm.mem_iff.1 ?_)
          rw [zN,Xd (by omega)];exact XU _
         simp only [BS]
         refine aE (aJ rfl) (q:=0) (ps:=[]) (by kernel_rfl) ?_
         simp only [BS,LB,cls,Nat.reduceLT,Nat.reduceEqDiff,Nat.reduceAdd,Nat.reducePow,Nat.reduceDiv,Nat.reduceMod,Nat.reduceLeDiff,FO,r0,r1,r3,r9,D,t,E,u,d,f]
         refine cD (F _ (((z.fr (M:=NoM)).trans S.fr (fun c e=>.inr (by omega))).gr) _ _ I J) ?_
         intro h v
         replace S:=S.call v
         by_cases m:key (l.getD k 0)<key (l.getD (k+1) 0)
         . have w:jZ (key (l.getD k 0)) (key (l.getD (k+1) 0))<0:=yN.2 m
           replace d:=v.load d
           replace f:=v.load f
           simp only [BS,LB,cls,Nat.reduceLT,Nat.reduceEqDiff,Nat.reduceAdd,Nat.reducePow,Nat.reduceDiv,Nat.reduceMod,Nat.reduceLeDiff,w]
           refine aE (aJ rfl) (q:=0) (ps:=[]) (by kernel_rfl) ?_
           simp only [BS,LB,cls,Nat.reduceLT,Nat.reduceEqDiff,Nat.reduceAdd,Nat.reducePow,Nat.reduceDiv,Nat.reduceMod,Nat.reduceLeDiff,FO,r0,r9,t,E,u,d,f]
           refine dP (aI S (i:=0) rfl Tryz.t3.2.2.1 bM (by rw [pD];omega) ono) ?_
           clear S;rintro V ⟨S,K⟩
           simp only [LC]at S
           simp only [BS,LB,cls,Nat.reduceLT,Nat.reduceEqDiff,Nat.reduceAdd,Nat.reducePow,Nat.reduceDiv,Nat.reduceMod,Nat.reduceLeDiff,FO,u]
           refine dP (aI S (i:=0) rfl Tryz.t3.2.2.1 bM (by rw [XE,pD];omega) ono) ?_
           clear S;rintro W ⟨S,L⟩
           simp only [LC]at S
           rw [yM,yM]at S
           simp only [BS,LB,Nat.reduceLT,Nat.reduceEqDiff,Nat.reduceAdd,r9,t]
           have e:bub key (k+1) l=bub key k (swJ l (k+1)):=by
            show(if _ then _ else _)=_
            rw [if_pos m]
           exact s k _ _ (by omega) ⟨by omega,swJ l (k+1),(yO (by omega)).trans pm,by rw [<-e];exact hbub,S,by simp [aa,r0],by simp [aa,r1],by simp [aa,r2],by simp [aa,r3],by simp [aa,r8],by simp [aa]⟩
         . have w: ¬jZ (key (l.getD k 0)) (key (l.getD (k+1) 0))<0:=fun h=>m (yN.1 h)
           have e:bub key (k+1) l=l:=by
            show(if _ then _ else _)=_
            rw [if_neg m]
           rw [e]at hbub
           simp only [BS,LB,cls,Nat.reduceLT,Nat.reduceEqDiff,Nat.reduceAdd,Nat.reducePow,Nat.reduceDiv,Nat.reduceMod,Nat.reduceLeDiff,r8,w,C]
           exact B (i+1) _ _ (by omega) ⟨by omega,by rw [oO,<-hbub];exact S,by simp [aa,r0],by simp [aa,r1],by simp [aa,r2],by simp [aa,r3],by simp [aa]⟩
       . have O:j=0:=by omega
         subst O
         have y:l=bub key (i+1) (ir key i xs):=hbub
         have D: ¬(0:Int)<((0:Nat):Int):=by omega
         simp only [BS]
         refine aE (aJ rfl) (q:=0) (ps:=[]) (by kernel_rfl) ?_
         simp only [BS,LB,cls,Nat.reduceLT,Nat.reduceEqDiff,Nat.reduceAdd,Nat.reducePow,Nat.reduceDiv,Nat.reduceMod,Nat.reduceLeDiff,Int.reduceLT,Xb,r1,r8,r9,C]
         exact B (i+1) _ _ (by omega) ⟨by omega,by rw [oO,<-y];exact S,by simp [aa,r0],by simp [aa,r1],by simp [aa,r2],by simp [aa,r3],by simp [aa]⟩
     . exact⟨XX _,_,r,rfl,S,by simp [aa,r0],by simp [aa,r1],by simp [aa,r2],by simp [aa,r3],by simp [aa,r8],by simp [aa]⟩
   . simp only [BS,LB,Nat.reduceLT,Nat.reduceEqDiff,r2,r8,aW,hlt]
     have P:i=xs.length-1:=by omega
     subst P
     exact⟨S.fr,S.row m0⟩
 . exact⟨Xp _,S,by simp [aa,cL],by simp [aa,cL],by simp [aa,cL],by simp [aa,cL],by simp [aa];rfl⟩
theorem stable_ok{hq h0:Hp}(c:Gr hq h0){b N:Nat}{xs:List Nat}{g:FuncId}{post:Array Value}{key:Nat->Int}(a:Row h0 b (gp xs) 1)(d:hq.n<=b)(m:xs.length<20)(e: ∀x∈xs,x<N)(i:CmpF zM hq g post.toList N key):
 Ret zM 222 [.slice (some ⟨b,0,some 1⟩) xs.length xs.length,.int .i64 (xs.length:Nat),.func (.func g) #[] post] h0 fun _ h'=>Mo (· =b) h0 h'/\Row h' b (gp (ir key (xs.length-1) xs)) 1:=by
 have j:=c.ok
 have k: ¬(20:Int)<=(xs.length:Int):=by omega
 have l: ¬(20:Int)<(xs.length:Int):=by omega
 have S:=Si j
 refine ae (n:=63) (rs:=[]) rfl Tryz.e222 rfl rfl rfl (lbt rfl) ?_
 simp only [BS,LB,Nat.reduceLT,Nat.reduceEqDiff]
 rw [aZ]
 simp only [BS,LB,Nat.reduceLT,Nat.reduceEqDiff,k]
 refine step_ret (zQ c a d (by omega) e i) ?_
 rintro r h ⟨f,R⟩
 simp only [BS]
 rw [aZ]
 simp only [BS,LB,Nat.reduceLT,Nat.reduceEqDiff,l]
 exact⟨f,R⟩
theorem wC{hq h0:Hp}(c:Gr hq h0){b N:Nat}{xs:List Nat}{g:FuncId}{post:Array Value}{key:Nat->Int}(a:Row h0 b (gp xs) 1)(d:hq.n<=b)(e:xs.length<20)(f: ∀x∈xs,x<N)(i:CmpF zM hq g post.toList N key):
 Ret zM 158 [.slice (some ⟨b,0,some 1⟩) xs.length xs.length,.func (.func g) #[] post] h0 fun _ h'=>Mo (· =b) h0 h'/\Row h' b (gp (ir key (xs.length-1) xs)) 1:=by
 refine ae (n:=9) (rs:=[]) rfl Tryz.e158 rfl rfl rfl (lbt rfl) ?_
 simp only [BS,LB,Nat.reduceLT,Nat.reduceEqDiff,F0p]
 refine step_ret (stable_ok c a d e f i) ?_
 rintro r h q
 simp only [BS]
 exact q
theorem xX{h0:Hp}(j:h0.t.Sized h0.n){v:Value}{xs:List Nat}(k:az h0 1 cI v xs)(u:xs.length<1000000)(d:xs≠ []):Ret zM 55 [v] h0 fun r h'=>Gr h0 h'/\ ∃b,r=.slice (some ⟨b,0,some 1⟩) xs.length xs.length/\Row h' b (gp xs) 1/\h0.n<=b:=by
 have S:=Si j
 rcases k with⟨_,rfl⟩|⟨b,o,s,c,rfl,l,m⟩
 . exact absurd rfl d
 . refine ae (n:=8) (rs:=[.tmp 2]) rfl Tryz.e55 rfl rfl rfl (lbt rfl) ?_
   simp only [BS,LB,Nat.reduceLT,Nat.reduceEqDiff,F0q]
   refine ah (cB (by exact Tryz.t33.1) (by exact Xz) (by decide) (by rfl)) S ?_;clear S;intro h x S f;simp only [LC,bq,bV,ag,Nat.reduceMul,Nat.reduceAdd,Xy,Xr,Xt,XA]at S
   simp only [BS,LB,Nat.reduceLT,Nat.reduceEqDiff]
   have p:=S.fr.n
   refine gf (S.cloneW (enc:=cI) (ys:=xs) Tryz.t33.1 Xz (by decide) Tryz.t33.2.2.2.2.2 (.inr ⟨b,o,s,c,rfl,l,S.old m (fun h=>h)⟩) hI (by decide) (by omega) (S.row m0)) ?_
   rintro h' v ⟨q,g,y,t,w⟩
   obtain⟨i,rfl,a⟩:=w d
   simp only [BS,LB,ac,Nat.reduceLT,Nat.reduceEqDiff]
   rw [uD]at a
   exact⟨q.gr,i,rfl,a,(t i rfl).elim (fun e=>by omega) (fun e=>Xh p e)⟩
theorem first_ok{hq h0:Hp}(j:Gr hq h0){N:Nat}{v:Value}{xs:List Nat}{g:FuncId}{post:Array Value}{key:Nat->Int}(t:az h0 1 cI v xs)(d:xs≠ [])(u:xs.length<20)(w: ∀x∈xs,x<N)(i:CmpF zM hq g post.toList N key){m:Nat}(C:1<=m):
 Ret zM 82 [v,.int .i64 (m:Nat),.func (.func g) #[] post] h0 fun r h'=>Gr h0 h'/\az h' 1 cI r ((ir key (xs.length-1) xs).take (min m xs.length))/\ ∀c,ar r c->h0.n<=c:=by
 have y:=j.ok
 have z:min (m:Int) (xs.length:Int)=((min m xs.length:Nat):Int):=by omega
 have q:=oL (key:=key) (l:=xs) (xs.length-1) (by cases xs with|nil=>exact absurd rfl d|cons a l=>simp)
 have S:=Si y
 refine ae (n:=18) (rs:=[.tmp 6]) rfl Tryz.e82 rfl rfl rfl (lbt rfl) ?_
 simp only [BS,LB,Nat.reduceLT,Nat.reduceEqDiff]
 refine step_ret (xX S.ok t (by omega) d) ?_
 rintro r h ⟨s,b,rfl,k,A⟩
 have o:hq.n<=b:=Xh j.n A
 simp only [BS,LB,Nat.reduceLT,Nat.reduceEqDiff]
 refine step_ret (wC (j.trans s) k o u w i) ?_
 rintro r D ⟨f,R⟩
 have B:=yr (kd:=.i64) (b:=b) (len:=xs.length) (n:=min m xs.length) Tryz.t33.1 Tryz.t3.2.2.1 (cap:=xs.length) (Nat.min_le_right _ _)
 simp only [BS,LB,ac,Nat.reduceLT,Nat.reduceEqDiff,Xm,Xn,F0r,z,B]
 refine⟨((s.fr (M:=NoM)).trans f (fun c e=>.inr (by omega))).gr,?_,fun c i=>by have i:b=c:=i;omega⟩
 have p:((ir key (xs.length-1) xs).take (min m xs.length)).length=min m xs.length:=by rw [XD,q.length_eq];omega
 refine .inr ⟨b,0,some 1,xs.length,by rw [p],by rw [p];exact Nat.min_le_right _ _,?_⟩
 rw [p,R.load (by rw [pD,q.length_eq];omega),uD,Xl,Xt]
 unfold gp
 rw [List.map_take]
def Tryz.F01:=aj t1<|aj t2<|aj t3<|aj t33<|aj t51<|aj t59<|Z4
def Tryz.F0s:=aj t1<|aj t2<|aj t3<|aj t4<|t33
def Tryz.F0t:=aj t3<|aj t33<|t161
def Tryz.F0u:=aj t1<|aj t2<|aj t3<|aj t33<|t161
def Tryz.F02:=aj t1<|aj t2<|aj t3<|aj t4<|aj t5<|aj t6<|aj Z3<|aj t33<|aj t51<|aj t59<|aj Z4<|t161
def keyB(N n:Nat)(R Q:Nat->List Int)(s w:Int)(i:Nat):Int:=mg N n R Q i s w
def actL(N n:Nat)(R Q:Nat->List Int)(s w a:Int):List Nat:=(ir (keyB N n R Q s w) (n-1) (Xa n)).take (min (max a 1).toNat n)
theorem Ap{hq:Hp}{m N:Nat}{p:Value}{l:List Int}{R Q:Nat->List Int}(t:TabAt hq m p N l R Q)(f: ∀i,i<l.length->(R i).length=N)(k: ∀i,i<l.length->(Q i).length=N)(o:l.length<1000){s w:Int}{b4 b5 b6:Nat}(c:hq.load b4 0 1=some [p])(d:hq.load b5 0 1=some [.int .i64 s])(e:hq.load b6 0 1=some [.int .i64 w]):
 CmpF zM hq 83 [ptrTo b4,ptrTo b5,ptrTo b6] l.length (keyB N l.length R Q s w):=by
 intro h g i j C D
 have E:Fl p:=by obtain⟨b,_,_,_,rfl,_⟩:=t.ex;exact dC
 have S:=Si g.ok
 have r:=bD g.ok (g.load c)
 have u:=bD g.ok (g.load d)
 have v:=bD g.ok (g.load e)
 refine ae (n:=19) (rs:=[.tmp 7]) rfl Tryz.e83 rfl rfl rfl (lbt rfl) ?_
 simp only [BS,LB]
 refine aE (aJ rfl) (q:=0) (ps:=[(4,8),(4,7),(4,5)]) (by kernel_rfl) ?_
 simp only [BS,LB,cls,Nat.reduceLT,Nat.reduceEqDiff,Nat.reduceAdd,Nat.reducePow,Nat.reduceDiv,Nat.reduceMod,Nat.reduceLeDiff,F01,g.load c,g.load d,g.load e]
 refine cD (uM S.ok ((t.gr g).gr S.gr) f k o) ?_
 intro F a
 have x:=ao a r
 have y:=ao a u
 have z:=ao a v
 replace S:=S.call a
 simp only [BS,LB,cls,Nat.reduceLT,Nat.reduceEqDiff,Nat.reduceAdd,Nat.reducePow,Nat.reduceDiv,Nat.reduceMod,Nat.reduceLeDiff,F01,a.load (g.load c),a.load (g.load d),a.load (g.load e)]
 refine cD (uM S.ok ((t.gr g).gr S.gr) f k o) ?_
 intro G A
 replace S:=S.call A
 simp only [BS,LB,cls,Nat.reduceLT,Nat.reduceEqDiff,Nat.reduceAdd,Nat.reducePow,Nat.reduceDiv,Nat.reduceMod,Nat.reduceLeDiff]
 refine cD (yB S.ok) ?_
 intro H B
 replace S:=S.call B
 simp only [BS,LB,cls,ac,Nat.reduceLT,Nat.reduceEqDiff,Nat.reduceAdd,Nat.reducePow,Nat.reduceDiv,Nat.reduceMod,Nat.reduceLeDiff]
 refine⟨by simp only [bj,bA,aS,bK,aY,ne_eq,not_false_eq_true,bJ,cb,a9,aX,cu,cR,aO,Nat.reduceLT,Nat.reduceEqDiff,reduceIte,Xc,ab,cL,av x,av y,av z],?_⟩
 exact⟨rfl,S.gr⟩
theorem insNil_ok{h0:Hp}(a:h0.t.Sized h0.n){v:Value}:bI zM 255 [.slice none 0 0,.int .i64 0,.int .i64 0,v] h0 (.tuple #[]):=by
 have S:=Si a
 have b:aq .i64 1=1:=rfl
 have c: ¬(1:Int)<0:=by decide
 refine ae (n:=53) (rs:=[]) rfl Tryz.e255 rfl rfl rfl (lbt rfl) ?_
 simp only [BS,LB,Nat.reduceLT,Nat.reduceEqDiff,Int.reduceAdd,b]
 rw [aZ]
 simp only [BS,LB,ac,Nat.reduceLT,Nat.reduceEqDiff,c]
 exact S.gr
theorem y6{h0:Hp}(c:h0.t.Sized h0.n){m:Nat}{g:FuncId}{post:Array Value}:bI zM 82 [.slice none 0 0,.int .i64 (m:Nat),.func (.func g) #[] post] h0 (.slice none 0 0):=by
 have S:=Si c
 have d:bI zM 55 [.slice none 0 0] h0 (.slice none 0 0):=by
  refine ae (n:=8) (rs:=[.tmp 2]) rfl Tryz.e55 rfl rfl rfl (lbt rfl) ?_
  simp only [BS,LB,ac,Nat.reduceLT,Nat.reduceEqDiff,F0s]
  exact S.gr
 have e:min (m:Int) 0=0:=by omega
 have f: ¬(20:Int)<=0:=by decide
 have i: ¬(20:Int)<0:=by decide
 have j: ∀{h:Hp},h.t.Sized h.n->bI zM 158 [.slice none 0 0,.func (.func g) #[] post] h (.tuple #[]):=fun {h} a=>by
  have S:=Si a
  have k:bI zM 222 [.slice none 0 0,.int .i64 0,.func (.func g) #[] post] h (.tuple #[]):=by
   refine ae (n:=63) (rs:=[]) rfl Tryz.e222 rfl rfl rfl (lbt rfl) ?_
   simp only [BS,LB,Nat.reduceLT,Nat.reduceEqDiff]
   rw [aZ]
   simp only [BS,LB,Nat.reduceLT,Nat.reduceEqDiff,f]
   refine an (insNil_ok S.ok) ?_;intro h g;replace S:=S.call g;clear g
   simp only [BS]
   rw [aZ]
   simp only [BS,LB,ac,Nat.reduceLT,Nat.reduceEqDiff,i]
   exact S.gr
  refine ae (n:=9) (rs:=[]) rfl Tryz.e158 rfl rfl rfl (lbt rfl) ?_
  simp only [BS,LB,Nat.reduceLT,Nat.reduceEqDiff,Xb,F0t]
  refine an k ?_;intro p l;replace S:=S.call l
  simp only [BS,LB,ac]
  exact S.gr
 have o:dS zM 33 (.slice none 0 0) none (some (.int .i64 0)) none=some (.slice none 0 0):=by
  simp only [dS,Tryz.t33.1,Tryz.t3.2.2.1,dZ,d6]
  rfl
 refine ae (n:=18) (rs:=[.tmp 6]) rfl Tryz.e82 rfl rfl rfl (lbt rfl) ?_
 simp only [BS,LB,Nat.reduceLT,Nat.reduceEqDiff]
 refine an d ?_;intro h b;replace S:=S.call b
 simp only [BS,LB,Nat.reduceLT,Nat.reduceEqDiff]
 refine an (j S.ok) ?_;intro h b;replace S:=S.call b
 simp only [BS,LB,ac,Nat.reduceLT,Nat.reduceEqDiff,Xb,Xm,Xn,F0u,e,o]
 exact S.gr
theorem An{h0:Hp}(J:h0.t.Sized h0.n){m N:Nat}{p:Value}{l:List Int}{R Q:Nat->List Int}(t:TabAt h0 m p N l R Q)(K: ∀i,i<l.length->(R i).length=N)(L: ∀i,i<l.length->(Q i).length=N)(Y:l.length<=16){s w a:Int}:
 Ret zM 29 [p,.int .i64 s,.int .i64 w,.int .i64 a] h0 fun r h'=>Gr h0 h'/\az h' 1 cI r (actL N l.length R Q s w a)/\ ∀c,ar r c->h0.n<=c:=by
 have S:=Si J
 have Z:Fl p:=by obtain⟨b,_,_,_,rfl,_⟩:=t.ex;exact dC
 obtain⟨mk,f⟩: ∃k:Nat,max a 1=(k:Int):=⟨(max a 1).toNat,by omega⟩
 have q:(max a 1).toNat=mk:=by omega
 refine ae (n:=27) (rs:=[.tmp 8]) rfl Tryz.e29 rfl rfl rfl (lbt rfl) ?_
 simp only [BS,Nat.reduceLT]
 refine ah (cP (by assumption)) S ?_;clear S;intro h b4 S D
 simp only [BS,Nat.reduceLT,Nat.reduceEqDiff,if_false]
 refine ah (cP (by exact bM)) S ?_;clear S;intro h b5 S E
 simp only [BS,Nat.reduceLT,Nat.reduceEqDiff,if_false]
 refine ah (cP (by exact bM)) S ?_;clear S;intro h b6 S F
 simp only [BS,LB,Nat.reduceLT,Nat.reduceEqDiff,F02,S.ld (b:=b4) (o:=0) m2 rfl]
 have k0:=S.fr.n
 refine step_ret (jJ S.ok (t.gr S.gr) (by omega)) ?_
 rintro r h ⟨g,M,z⟩
 replace S:=S.call g
 simp only [BS,LB,Nat.reduceLT,Nat.reduceEqDiff,F02,M.lenq]
 replace S:=S.nilG (k:=1)
 refine cm (fun(i:Nat) d h=>i<=l.length/\ ∃u,St NoM h0 h [(b6,.row [.int .i64 w] 1),(b5,.row [.int .i64 s] 1),(b4,.row [p] 1)] [(u,1,gp (Xa i))]/\(i=0->u=.slice none 0 0)/\d 3=.int .i64 a/\d 4=ptrTo b4/\d 5=ptrTo b5/\d 6=ptrTo b6/\d 9=u/\d 13=.int .i64 (l.length:Nat)/\d 14=.int .i64 i) (fun i=>l.length-i) ?_ 0 _ _ ?_
 . clear S
   intro i O d h ⟨hi,u,S,hv,r3,r4,r5,r6,r9,r13,r14⟩
   have P:aq .i64 ((i:Int)+1)=((i+1:Nat):Int):=by rw [wrap64]<;>omega
   by_cases hlt:i<l.length
   . simp only [BS,LB,Nat.reduceLT,Nat.reduceEqDiff,r9,r13,r14,aW,hlt]
     refine ah (cB (by exact Tryz.t33.1) (by exact Xz) (by decide) (by rfl)) S ?_;clear S;intro h G S H;simp only [LC,bq,bV,ag,Nat.reduceMul,Nat.reduceAdd,Xy,Xr,Xt,XA]at S
     simp only [BS,LB,Nat.reduceLT,Nat.reduceEqDiff]
     have v:aP h 1 (.slice (some ⟨G,0,none⟩) 1 1)=some (1,[.int .i64 (i:Nat)]):=by simp only [aP];rw [S.lds (b:=G) (o:=0) (n:=1*1) m0 (lbt rfl)];rfl
     replace S:=S.drop1
     refine gf (S.grow (j:=0) (m:=1) (new:=[.int .i64 (i:Nat)]) rfl Tryz.t33.1 Xz (by decide) Tryz.t33.2.2.2.2.2 v rfl (by decide) rfl (by rw [pD];simp;omega)) ?_
     clear S v;rintro h A S
     simp only [LC]at S
     have e:gp (Xa i)++[.int .i64 (i:Nat)]=gp (Xa (i+1)):=by unfold gp;rw [List.range_succ,List.map_append];rfl
     rw [e]at S
     simp only [BS,LB,Nat.reduceLT,Nat.reduceEqDiff,r14,P]
     exact O (i+1) _ _ (by omega) ⟨by omega,A,S,fun h=>(by omega),by simp [aa,r3],by simp [aa,r4,ab],by simp [aa,r5,ab],by simp [aa,r6,ab],by simp [aa],by simp [aa,r13],by simp [aa]⟩
   . have T:i=l.length:=by omega
     subst T
     simp only [BS,LB,Nat.reduceLT,Nat.reduceEqDiff,r3,r4,r5,r6,r9,r13,r14,aW,hlt]
     by_cases B:l.length=0
     . have U:=hv B
       subst U
       have I:=S.fr.n
       rw [f]
       refine an (y6 S.ok) ?_
       intro h' g
       replace S:=S.call g
       simp only [BS,LB,ac,Nat.reduceLT,Nat.reduceEqDiff]
       refine⟨S.gr,.inl ⟨rfl,?_⟩,fun c z=>z.elim⟩
       unfold actL
       rw [B];simp
     . have V:az h 1 cI u (Xa l.length):=(S.gown _ m0).1.sl (uD _).symm hI (by decide)
       have I:=S.fr.n
       have W:=Ap (t.gr S.gr) K L (by omega) (s:=s) (w:=w) (b4:=b4) (b5:=b5) (b6:=b6) (S.ld m2 rfl) (S.ld m1 rfl) (S.ld m0 rfl)
       rw [f]
       refine step_ret (first_ok (N:=l.length) (m:=mk) (Gr.refl S.ok) V (by intro e;have:=congrArg List.length e;rw [XQ]at this;exact B this) (by simp;omega) (fun x X=>List.mem_range.1 X) W (by omega)) ?_
       rintro r h' ⟨g,y,C⟩
       replace S:=S.call g
       simp only [BS,LB,ac,Nat.reduceLT,Nat.reduceEqDiff]
       rw [XQ]at y
       exact⟨S.gr,by unfold actL;rw [q];exact y,fun c z=>Xh I (C c z)⟩
 . exact⟨Xp _,_,S,fun _=>rfl,by simp [aa,cL],by simp [aa,ab],by simp [aa,ab],by simp [aa,ab],by simp [aa],by simp [aa],by simp [aa]⟩
structure TabO(E:Env)(h0:Hp)(pt:Value)(nd mk:Nat)(gM gN:FuncId):Prop where
 fl:Fl pt
 marks: ∀h,Gr h0 h->Ret E gM [pt] h fun r h'=>Gr h h'/\ ∃l:List Int,az h' 1 (encI .i64) r l/\l.length=mk
 nodes: ∀h,Gr h0 h->bI E gN [pt] h (.int .i64 (nd:Nat))
def bg(N nd mk:Nat)(f t:Int):Int:=if¬(0<=f/\f<N)then 17 else if¬(0<=t/\t<N)then 18 else if 0<mk/\nd=N then 0 else 19
def Tryz.F03:=aj t1<|aj t2<|aj t3<|aj t4<|aj t33<|aj t51<|aj t59<|aj Z4<|aj t137<|t217
theorem gu.keep{h h':Hp}{m n:Nat}{v:Value}{R:Nat->List Int}(e:h.t.Sized h.n)(g:iv h h')(r:gu h m v n R):gu h' m v n R:=by
 obtain⟨j,a,b,c,d⟩:=r
 exact⟨j,a.keep e g,b,c,fun i w f=>⟨(d i w f).1.keep e g,(d i w f).2⟩⟩
theorem TabAt.keep{h h':Hp}{m N:Nat}{p:Value}{l:List Int}{R Q:Nat->List Int}(a:h.t.Sized h.n)(g:iv h h')(t:TabAt h m p N l R Q):TabAt h' m p N l R Q:=by
 obtain⟨b,c,d,f,e,i,j,k,n,o,q⟩:=t.ex
 exact⟨b,c,d,f,e,g.row a i,j.keep a g,k.keep a g,n.keep a g,o,q⟩
theorem bEach_ok{h0:Hp}(e:h0.t.Sized h0.n){c d:Value}(f:Fl c)(g:Fl d):Ret zM 126 [c,d] h0 fun v h'=>Gr h0 h'/\ ∃b1 b2,v=.func (.func 206) #[] #[ptrTo b1,ptrTo b2]/\h0.n<=b1/\h0.n<=b2/\h'.load b1 0 1=some [c]/\h'.load b2 0 1=some [d]:=by
 have S:=Si e
 refine ae (n:=6) (rs:=[.tmp 4]) rfl Tryz.e126 rfl rfl rfl (lbt rfl) ?_
 simp only [BS,Nat.reduceLT]
 refine ah (cP (by assumption)) S ?_;clear S;intro h b1 S a
 simp only [BS,Nat.reduceLT,Nat.reduceEqDiff,if_false]
 refine ah (cP (by assumption)) S ?_;clear S;intro h b2 S b
 simp only [BS,LB,ac,Nat.reduceLT,Nat.reduceEqDiff]
 exact⟨S.gr,b1,b2,rfl,a,b,S.ld m1 rfl,S.ld m0 rfl⟩
def TellF(E:Env)(hq:Hp)(g:FuncId)(post:List Value)(N:Nat)(f:Nat->Int):Prop:= ∀h,h.t.Sized h.n->iv hq h-> ∀v,v<N->bI E g ([.int .i64 (v:Nat)]++post) h (.int .i64 (f v))
theorem bEach_it{hq h0:Hp}(k:hq.t.Sized hq.n)(e:h0.t.Sized h0.n)(u:iv hq h0)(x:hq.n<=h0.n){m N:Nat}{o:Value}{l:List Int}{R Q:Nat->List Int}(t:TabAt hq m o N l R Q)(O:N<=1000){b1 b2:Nat}{g:FuncId}{post:Array Value}{f:Nat->Int}(hf:TellF zM hq g post.toList N f)
 (C:h0.load b1 0 1=some [o]) (D:h0.load b2 0 1=some [.func (.func g) #[] post]):
 IterN zM 206 [] [ptrTo b1,ptrTo b2] h0 (fun c=>c=b1\/c=b2\/c<hq.n) ((Xa N).map fun(v:Nat)=>[.int .i64 (f v)]):=by
 intro E J Z G Y h F s j
 have y:=s.load e C (.inl rfl)
 have P:Fl o:=by obtain⟨b,_,_,_,rfl,_⟩:=t.ex;exact dC
 refine enter (n:=17) (rs:=[]) rfl Tryz.e206 rfl rfl rfl (lbt rfl) ?_
 simp only [BS,LB,Nat.reduceLT,F03,y]
 refine an (me s.ok (t.keep k (s.keep u x (fun c p=>.inr (.inr p))))) ?_
 intro S q
 have z:=s.gr q
 have A:=Y.gr _ _ _ _ j q
 simp only [BS]
 refine cm (fun(i:Nat) d h=>i<=N/\ ∃F,ItS h0 (fun c=>c=b1\/c=b2\/c<hq.n) h F/\J i h F/\d 0=.func (.yield E) #[] #[]/\d 1=ptrTo b1/\d 2=ptrTo b2/\d 6=.int .i64 (N:Nat)/\d 7=.int .i64 i) (fun i=>N-i) ?_ 0 _ _ ?_
 . clear y s j z A F q h
   intro i H d h ⟨hi,F,s,j,r0,r1,r2,r6,r7⟩
   have w:aq .i64 ((i:Int)+1)=((i+1:Nat):Int):=by rw [wrap64]<;>omega
   by_cases hlt:i<N
   . have I:=s.load e D (.inr (.inl rfl))
     have K:((Xa N).map fun(v:Nat)=>[Value.int .i64 (f v)])[i]? =some [.int .i64 (f i)]:=by rw [XP,List.getElem?_range hlt];rfl
     simp only [BS,LB,Nat.reduceLT,Nat.reduceEqDiff,F03,r0,r2,r6,r7,aW,hlt,I]
     refine an (hf _ s.ok (s.keep u x (fun c p=>.inr (.inr p))) i hlt) ?_
     intro T B
     simp only [BS,LB,Nat.reduceLT,Nat.reduceEqDiff]
     refine gL Y (s.gr B) (Y.gr _ _ _ _ j B) (i:=i) K ?_ ?_ ?_
     . intro r L a M _ _
       simp only [BS,LB,Nat.reduceLT,Nat.reduceEqDiff,r7,w]
       exact H (i+1) _ _ (by omega) ⟨by omega,L,M,a,by simp [aa,r0],by simp [aa,r1,ab],by simp [aa,r2,ab],by simp [aa,r6],by simp [aa]⟩
     . intro r a _
       simp only [BS,LB,Nat.reduceLT,Nat.reduceEqDiff]
       exact jw rfl ⟨rfl,.inr (.inl ⟨_,rfl,a⟩)⟩
     . intro v r a
       exact absurd a (G v r)
   . simp only [BS,LB,Nat.reduceLT,r6,r7,aW,hlt]
     have:i=N:=by omega
     subst this
     exact dT (cq ⟨rfl,_,rfl,rfl,.inl ⟨_,F,rfl,by simpa using j⟩⟩)
 . exact⟨Xp _,F,z,A,by simp [aa,cL],by simp [aa,cL,ab],by simp [aa,cL,ab],by simp [aa],by simp [aa]⟩
def Tryz.F0v:=aj t1<|aj t2<|aj t3<|aj t4<|aj t24<|aj t33<|aj t51<|aj t59<|Z4
def Tryz.F0w:=aj t1<|aj t2<|aj t3<|aj t4<|aj t24<|aj t33<|aj t51<|aj t59<|Z4
theorem zw{h0:Hp}(a:h0.t.Sized h0.n):Ret zM 81 [.pointer none] h0 fun r h'=>Gr h0 h'/\ ∃l:List Int,az h' 1 (encI .i64) r l/\l.length=0:=by
 have S:=Si a
 refine ae (n:=10) (rs:=[.tmp 2]) rfl Tryz.e81 rfl rfl rfl (lbt rfl) ?_
 simp only [BS,LB,ac,Nat.reduceLT,Nat.reduceEqDiff,F0v]
 exact⟨S.gr,[],.inl ⟨rfl,rfl⟩,rfl⟩
theorem zc{h0:Hp}(a:h0.t.Sized h0.n):bI zM 112 [.pointer none] h0 (.int .i64 ((0:Nat):Int)):=by
 have S:=Si a
 refine ae (n:=9) (rs:=[.tmp 2]) rfl Tryz.e112 rfl rfl rfl (lbt rfl) ?_
 simp only [BS,LB,ac,Nat.reduceLT,Nat.reduceEqDiff,Xb,F0w]
 exact S.gr
def TabQ(h:Hp)(a:Value)(nd:Nat)(l:List Int)(R Q:Nat->List Int):Prop:=(∃m,TabAt h m a nd l R Q/\(∀i,i<l.length->(R i).length=nd)/\ ∀i,i<l.length->(Q i).length=nd)\/(a=.pointer none/\nd=0/\l=[])
theorem TabQ.gr{h h':Hp}{c:Value}{nd:Nat}{l:List Int}{R Q:Nat->List Int}(t:TabQ h c nd l R Q)(g:Gr h h'):TabQ h' c nd l R Q:=t.imp (fun⟨m,a,b⟩=>⟨m,a.gr g,b⟩) (fun h=>h)
theorem TabQ.tabO{h:Hp}{d:Value}{nd:Nat}{l:List Int}{R Q:Nat->List Int}(t:TabQ h d nd l R Q)(e:l.length<1000):TabO zM h d nd l.length 81 112:=by
 rcases t with⟨m,t,_,_⟩|⟨rfl,rfl,rfl⟩
 . refine⟨by obtain⟨b,_,_,_,rfl,_⟩:=t.ex;exact dC,fun x k=>(jJ k.ok (t.gr k) e).mono fun r f ⟨a,b,c⟩=>⟨a,l,b,rfl⟩,fun x k=>me k.ok (t.gr k)⟩
 . exact⟨dC,fun x k=>zw k.ok,fun x k=>zc k.ok⟩
theorem Al{N nd mk:Nat}{f t:Int}(h:bg N nd mk f t=0):(0<=f/\f<N)/\(0<=t/\t<N)/\0<mk/\nd=N:=by
 unfold bg at h
 split at h
 . cases h
 . split at h
   . cases h
   . split at h
     . rename_i b c a;exact⟨by omega,by omega,a⟩
     . cases h
def ansV(c:Int)(d:Int)(a b:Value):Value:=.agg ⟨[.int .i64 c,.int .i64 d,a,b]⟩
end Go.Ab
end
section
namespace Go.Ab
end Go.Ab

end
section
namespace Go.Ab
open Go.Proofs
set_option maxRecDepth 10000


def rh(a b:Int):Int:=if wy a<72057594037927936 then(if wy b<72057594037927936 then wy a-wy b else 72057594037927936)else 72057594037927936
def Tryz.F04:=aj t1<|aj t2<|aj t3<|aj t4<|aj t6<|aj Z3<|aj t24<|t213
def Tryz.F05:=aj t1<|aj t2<|aj t3<|aj t33<|aj t51<|aj t59<|Z4
def Tryz.FP:=aj t1<|aj t2<|aj t3<|aj t4<|aj t24<|aj t33<|aj t51<|aj t59<|aj Z4<|aj t213<|t217
theorem wl{h0:Hp}(Y:h0.t.Sized h0.n){g:FuncId}{post:Array Value}{D W:Nat->Prop}{xs:List Int}(Z:IterW zM g post.toList h0 D W (xs.map fun(x:Int)=>[.int .i64 x]))(I: ∀b,W b->b<h0.n)(hn:xs.length<100000):
 Ret zM 205 [.slice none 0 0,.func (.func g) #[] post] h0 fun r h'=>Mo W h0 h'/\eX h' (r,1,ints xs)/\ ∀c,ar r c->h0.n<=c:=by
 have S:=Si Y
 refine ae (n:=13) (rs:=[.tmp 4]) rfl Tryz.e205 rfl rfl rfl (lbt rfl) ?_
 simp only [BS,Nat.reduceLT]
 refine ah (cP (by exact bF)) S ?_;clear S;intro h l S t
 simp only [BS,Nat.reduceLT,Nat.reduceEqDiff,if_false]
 replace S:=S.nilG (k:=1)
 have J:=S.gr
 replace S:=S.monoM (M:=W)
 have C:=S.fr
 refine mF S (g:=g) (a:=#[]) (b:=post) (by simp [cu,aa,bR,cJ]) rfl rfl ?_
 intro E u s p ad af K
 obtain⟨X,N,p⟩: ∃X:gR,X=_/\St W h0 E [(s,.loop X),(u,.dfr),(l,.row [.slice none 0 0] 1)] [(.slice none 0 0,1,[])]:=⟨_,rfl,p⟩
 have O: ∀c,h0.n<=c-> ¬W c:=fun c h G=>by have:=I c G;omega
 have hJ:Yld zM s (fun k h' F=> ∃(e:Value),St W h0 h' [(s,.loop X),(u,.dfr),(l,.row [e] 1)] [(e,1,ints (xs.take k))]/\k<=xs.length/\(∀c∈F,h0.n<=c)/\F=keys [(s,.loop X),(u,.dfr),(l,.row [e] 1)] [(e,1,ints (xs.take k))]) (fun _ _=>False) (xs.map fun(x:Int)=>[.int .i64 x]):=by
  refine⟨?_,?_,fun _ _ h=>h.elim,?_⟩
  . rintro i h F ⟨e,S,_,_,rfl⟩;exact⟨S.ok,fun b f=>S.key_lt f⟩
  . rintro i h F h' ⟨e,S,a,b,rfl⟩ B;exact⟨e,S.call B,a,b,rfl⟩
  . rintro i x hR F v ⟨e,S,a,b,rfl⟩
    have w:i<xs.length:=by
     have:=(List.getElem?_eq_some_iff.1 v).1
     simpa using this
    rw [XP,Xd w]at v
    cases v
    have tk:ints (xs.take (i+1))=ints (xs.take i)++[.int .i64 xs[i]]:=by rw [List.take_add_one,Xd w];exact oe _ _
    have tl:(xs.take i).length<=i:=by rw [XD];omega
    subst N
    refine mw (S.get m0) (by rw [Tryz.e205];rfl) rfl ?_
    have P:=S
    replace S:=S.base
    simp only [BS,LB,Nat.reduceLT,Nat.reduceEqDiff]
    refine kz S (i:=0) rfl rfl rfl rfl rfl ?_
    clear S;intro h S
    simp only [LC]at S
    simp only [BS,LB,Nat.reduceLT,Nat.reduceEqDiff,F04,S.ld (b:=l) (o:=0) m2 rfl]
    refine ah (cB (by exact Tryz.t24.1) (by exact Tryz.e2E) (by decide) (by rfl)) S ?_;clear S;intro h Q S R;simp only [LC,bq,bV,ag,Nat.reduceMul,Nat.reduceAdd,Xy,Xr,Xt,XA]at S
    simp only [BS,LB,Nat.reduceLT,Nat.reduceEqDiff]
    have z:aP h 1 (.slice (some ⟨Q,0,none⟩) 1 1)=some (1,[.int .i64 xs[i]]):=by simp only [aP];rw [S.lds (b:=Q) (o:=0) (n:=1*1) m0 (lbt rfl)];rfl
    replace S:=S.drop1
    refine gf (S.grow (j:=0) (m:=1) (new:=[.int .i64 xs[i]]) rfl Tryz.t24.1 Tryz.e2E (by decide) Tryz.t24.2.2.2.2.2 z rfl (by decide) rfl (by rw [dr];simp;omega)) ?_
    clear S z;rintro h A S
    simp only [LC]at S
    have fv:Fl A:=(S.gown _ m0).1.fl
    simp only [BS,LB,Nat.reduceLT,Nat.reduceEqDiff]
    refine aC (aI S (i:=2) rfl Tryz.t24.2.2.1 fv (Xu (lbt rfl)) ono) ?_
    clear S;rintro h ⟨S,_⟩
    simp only [LC]at S
    simp only [BS]
    refine iu S (i:=0) rfl ?_
    clear S;intro h S
    simp only [LC]at S
    rw [<-tk]at S
    have H:=P.rebase S
    refine .inl ⟨rfl,_,⟨A,H,by omega,fun c d=>?_,rfl⟩,S.fr,fun c d=>(S.key_own d).symm⟩
    rcases S.key_own d with U|U
    . have:=P.fr.n;omega
    . exact b c U
 have q: ∀c∈keys [(s,Ob.loop X),(u,.dfr),(l,.row [.slice none 0 0] 1)] [(.slice none 0 0,1,[])],h0.n<=c:=fun c d=>by
  have n2:=t
  have:=C.n
  simp [keys,dY]at d
  omega
 refine eW (Z s _ _ (fun _ _ h=>h) hJ ?_ E _ ?_ ?_ (fun c d=>O c (q c d)) ⟨_,p,Xp _,q,rfl⟩) fun o rc h' y=>ou y ?_
 . rintro i h F h' ⟨e,S,a,b,rfl⟩ B
   exact⟨e,S.step B (fun c d=>.inl d) (fun c d G=>O c (b c d) G),a,b,rfl⟩
 . have B:Mo W h0 E:=p.fr
   exact⟨p.ok,p.fr.n,fun b f _=>(J.trans K).get b f,fun b f h=>by have:=q b f;omega,fun b f=>p.key_lt f⟩
 . exact fun b f=>(J.trans K).get b (I b f)
 . rintro F ⟨e,T,a,b,rfl⟩
   rw [Xx,List.take_length]at T b
   subst N
   refine⟨_,T.get m0,Nat.zero_ne_one,?_⟩
   replace T:=T.dead
   have S:=T
   show Run _ _ _ _ _ _ _ _
   simp only [BS,LB,Nat.reduceLT,Nat.reduceEqDiff,F04,S.ld (b:=l) (o:=0) m1 rfl]
   refine gW (ns [u] _ (L:=[(l,_)]) T.base fun h3 V=>⟨rfl,_,rfl,?_⟩)
   refine⟨(T.fr.trans V.fr (fun c d=>(T.key_own d).symm):Mo W h0 h3),(V.gown _ m0).1,fun x v=>?_⟩
   refine b x ?_
   have:dY (e,1,ints xs)=some x:=pH (T.gown _ m0).1 v
   exact eo m0 this
theorem yY{h0:Hp}(a:h0.t.Sized h0.n){g:FuncId}{post:Array Value}{D W:Nat->Prop}{xs:List Int}(d:IterW zM g post.toList h0 D W (xs.map fun(x:Int)=>[.int .i64 x]))(e: ∀b,W b->b<h0.n)(i:xs.length<100000):
 Ret zM 125 [.func (.func g) #[] post] h0 fun r h'=>Mo W h0 h'/\eX h' (r,1,ints xs)/\ ∀c,ar r c->h0.n<=c:=by
 have S:=Si a
 refine ae (n:=5) (rs:=[.tmp 2]) rfl Tryz.e125 rfl rfl rfl (lbt rfl) ?_
 simp only [BS,LB,Nat.reduceLT,Nat.reduceEqDiff]
 refine step_ret (wl S.ok d e i) ?_
 rintro r h ⟨f,q⟩
 simp only [BS,LB,ac,Nat.reduceLT,Nat.reduceEqDiff]
 exact⟨f,q⟩
theorem zg{h0:Hp}(c:h0.t.Sized h0.n){v t:Int}:bI zM 128 [.int .i64 v,.int .i64 t] h0 (.int .i64 (rh v t)):=by
 have S:=Si c
 have d:=wy_bd v
 have e:=wy_bd t
 have w:aq .i64 (wy v-wy t)=wy v-wy t:=by rw [wrap64]<;>omega
 refine ae (n:=18) (rs:=[.tmp 4]) rfl Tryz.e128 rfl rfl rfl (lbt rfl) ?_
 simp only [BS,LB,Nat.reduceLT,Nat.reduceEqDiff]
 refine an (oh S.ok) ?_;intro h g;replace S:=S.call g;clear g
 unfold rh
 by_cases a:wy v<72057594037927936
 . simp only [BS,LB,Nat.reduceLT,Nat.reduceEqDiff,a]
   refine an (oh S.ok) ?_;intro h g;replace S:=S.call g;clear g
   by_cases b:wy t<72057594037927936
   . simp only [BS,LB,Nat.reduceLT,Nat.reduceEqDiff,b]
     refine an (oU S.ok) ?_;intro h g;replace S:=S.call g;clear g
     simp only [BS,LB,Nat.reduceLT,Nat.reduceEqDiff]
     refine an (oU S.ok) ?_;intro h g;replace S:=S.call g;clear g
     simp only [BS,LB,ac,Nat.reduceLT,Nat.reduceEqDiff,w]
     exact S.gr
   . simp only [BS,LB,ac,Nat.reduceLT,Nat.reduceEqDiff,b]
     exact S.gr
 . simp only [BS,LB,ac,Nat.reduceLT,Nat.reduceEqDiff,a]
   exact S.gr
theorem twin1_ok{hq:Hp}{m N:Nat}{p:Value}{l:List Int}{R Q:Nat->List Int}(a:hq.t.Sized hq.n)(t:TabAt hq m p N l R Q)(x: ∀i,i<l.length->(R i).length=N)(y: ∀i,i<l.length->(Q i).length=N)(z:l.length<1000){A:Value}{d:List Int}(j:az hq 1 (encI .i64) A d)(e:d.length<1000){s w:Int}{b4 b5 b6 o:Nat}(L:hq.load b4 0 1=some [p])(M:hq.load b5 0 1=some [A])(O:hq.load b6 0 1=some [.int .i64 s])(P:hq.load o 0 1=some [.int .i64 w]):
 TellF zM hq 127 [ptrTo b4,ptrTo b5,ptrTo o,ptrTo b6] N (fun v=>rh (jQ N l.length R Q v w d) (jQ N l.length R Q s v d)):=by
 intro h f k v Y
 have Z:Fl p:=by obtain⟨b,_,_,_,rfl,_⟩:=t.ex;exact dC
 have fa:=j.fl
 have S:=Si f
 have r:=k.load a L
 have u:=k.load a M
 have B:=k.load a O
 have C:=k.load a P
 have T:=bD f r
 have U:=bD f u
 have V:=bD f B
 have W:=bD f C
 refine ae (n:=18) (rs:=[.tmp 6]) rfl Tryz.e127 rfl rfl rfl (lbt rfl) ?_
 simp only [BS,LB]
 refine aE (aJ rfl) (q:=0) (ps:=[(4,7),(4,6),(4,5)]) (by kernel_rfl) ?_
 simp only [BS,LB,cls,Nat.reduceLT,Nat.reduceEqDiff,Nat.reduceAdd,Nat.reducePow,Nat.reduceDiv,Nat.reduceMod,Nat.reduceLeDiff,F05,r,u,C]
 refine cD (ym S.ok (t.keep a k) x y z (j.keep a k) e) ?_
 intro h1 c
 have D:=ao c T
 have E:=ao c U
 have F:=ao c V
 have G:=ao c W
 replace S:=S.call c
 have n1:=c.n
 simp only [BS,LB,cls,Nat.reduceLT,Nat.reduceEqDiff,Nat.reduceAdd,Nat.reducePow,Nat.reduceDiv,Nat.reduceMod,Nat.reduceLeDiff,F05,c.load r,c.load u,c.load B]
 refine cD (ym S.ok ((t.keep a k).gr c) x y z ((j.keep a k).gr c) e) ?_
 intro h2 g
 have H:=ao g (show b4<_ by omega)
 have I:=ao g (show b5<_ by omega)
 have J:=ao g (show b6<_ by omega)
 have K:=ao g (show o<_ by omega)
 replace S:=S.call g
 simp only [BS,LB,cls,Nat.reduceLT,Nat.reduceEqDiff,Nat.reduceAdd,Nat.reducePow,Nat.reduceDiv,Nat.reduceMod,Nat.reduceLeDiff]
 refine cD (zg S.ok) ?_
 intro h3 X
 replace S:=S.call X
 simp only [BS,LB,cls,ac,Nat.reduceLT,Nat.reduceEqDiff,Nat.reduceAdd,Nat.reducePow,Nat.reduceDiv,Nat.reduceMod,Nat.reduceLeDiff]
 refine⟨by simp only [bj,bA,aS,bK,aY,ne_eq,not_false_eq_true,bJ,cb,a9,aX,cu,cR,aO,Nat.reduceLT,Nat.reduceEqDiff,reduceIte,Xc,ab,bR,cJ,au D,av D,au E,av E,au F,av F,au G,av G,au H,av H,au I,av I,au J,av J,au K,av K],?_⟩
 exact S.gr
theorem bTwin_ok{h0:Hp}(J:h0.t.Sized h0.n){m N:Nat}{p:Value}{l:List Int}{R Q:Nat->List Int}(t:TabAt h0 m p N l R Q)(K: ∀i,i<l.length->(R i).length=N)(L: ∀i,i<l.length->(Q i).length=N)(M:l.length<1000)(O:N<=1000){A:Value}{a:List Int}(B:az h0 1 (encI .i64) A a)(q:a.length<1000){s w:Nat}(hs:s<N)(hw:w<N):
 Ret zM 51 [p,A,.int .i64 (s:Nat),.int .i64 (w:Nat)] h0 fun r h'=>Gr h0 h'/\az h' 1 (encI .i64) r ((Xa N).map fun(v:Nat)=>rh (jQ N l.length R Q v w a) (jQ N l.length R Q s v a))/\ ∀c,ar r c->h0.n<=c:=by
 have P:Fl p:=by obtain⟨b,_,_,_,rfl,_⟩:=t.ex;exact dC
 have fa:=B.fl
 have S:=Si J
 have T:0<=(w:Int)/\(w:Int)<(N:Int):=by omega
 have U:0<=(s:Int)/\(s:Int)<(N:Int):=by omega
 have V:decide (0<=(w:Int)/\(w:Int)<(N:Int))=true:=decide_eq_true T
 have W:decide (0<=(s:Int)/\(s:Int)<(N:Int))=true:=decide_eq_true U
 refine ae (n:=23) (rs:=[.tmp 8]) rfl Tryz.e51 rfl rfl rfl (lbt rfl) ?_
 simp only [BS,Nat.reduceLT]
 refine ah (cP (by assumption)) S ?_;clear S;intro h X S C
 simp only [BS,Nat.reduceLT,Nat.reduceEqDiff,if_false]
 refine ah (cP (by assumption)) S ?_;clear S;intro h Y S D
 simp only [BS,Nat.reduceLT,Nat.reduceEqDiff,if_false]
 refine ah (cP (by exact bM)) S ?_;clear S;intro h Z S E
 simp only [BS,Nat.reduceLT,Nat.reduceEqDiff,if_false]
 refine ah (cP (by exact bM)) S ?_;clear S;intro h b7 S F
 have d:=S.gr
 have k:=S.ld (b:=X) (o:=0) m3 rfl
 have l5:=S.ld (b:=Y) (o:=0) m2 rfl
 have H:=S.ld (b:=Z) (o:=0) m1 rfl
 have I:=S.ld (b:=b7) (o:=0) m0 rfl
 have e:=S.ok
 clear S
 rename Hp=>hq
 have S:=Si e
 have tf:=twin1_ok e (t.gr d) K L M (B.gr d) q k l5 H I
 simp only [BS,LB,Nat.reduceLT,Nat.reduceEqDiff,FP,k,H]
 refine an (gk S.ok (t.gr d)) ?_
 intro h g;replace S:=S.call g;clear g
 simp only [BS,LB,Nat.reduceLT,Nat.reduceEqDiff,FP,W,S.old k (fun h=>h),S.old I (fun h=>h)]
 refine an (gk S.ok ((t.gr d).gr S.gr)) ?_
 intro h g;replace S:=S.call g;clear g
 simp only [BS,LB,Nat.reduceLT,Nat.reduceEqDiff,FP,V,S.old k (fun h=>h)]
 refine step_ret (bEach_ok S.ok P gI) ?_
 rintro r h ⟨g,u,y,rfl,n1,n2,y1,y2⟩
 replace S:=S.call g;clear g
 have z:=bEach_it e S.ok S.gr.keep S.fr.n (t.gr d) O tf y1 y2
 have kn:=S.fr.n
 have kG:=d.n
 rename Hp=>hE
 simp only [BS,LB,Nat.reduceLT,Nat.reduceEqDiff]
 generalize j:((Xa N).map fun(v:Nat)=>rh (jQ N l.length R Q v w a) (jQ N l.length R Q s v a))=xs
 have ad:xs.length=N:=by rw [<-j];simp
 replace z:IterN zM 206 [] [ptrTo u,ptrTo y] hE (fun c=>c=u\/c=y\/c<hq.n) (xs.map fun x=>[.int .i64 x]):=by rw [<-j,List.map_map];exact z
 refine step_ret (yY S.ok (post:=#[ptrTo u,ptrTo y]) (iter_w z) (fun _ h=>h.elim) (by omega)) ?_
 rintro r h2 ⟨f,G,nr⟩
 have g2:=f.gr
 simp only [BS,LB,ac,Nat.reduceLT,Nat.reduceEqDiff]
 exact⟨d.trans (S.gr.trans g2),G.sl rfl (fun _=>rfl) (by decide),fun c hc=>by have:=nr c hc;omega⟩
end Go.Ab
end
section
namespace Go.Ab
open Go.Proofs
set_option maxRecDepth 10000
def Tryz.F0x:=aj t1<|aj t4<|aj t20<|aj t45<|aj t110<|r110
def Tryz.F0y:=aj t1<|aj t3<|aj t4<|aj Z0<|aj t32<|aj t189<|Z1
def Tryz.F0z:=aj t4<|aj Z0<|aj t32<|aj t45<|aj t189<|Z1
def Tryz.F0A:=aj t1<|aj t3<|aj t4<|aj Z11<|aj t45<|t196
def Tryz.F0B:=aj t2<|aj t3<|aj t4<|aj Z11<|aj t45<|t196
def Tryz.FF:=aj t3<|aj t4<|aj Z0<|aj t32<|aj t33<|aj t45<|aj t51<|aj t59<|aj Z4<|aj t189<|Z1
def Tryz.F06:=aj t1<|aj t2<|aj t3<|aj t4<|aj t5<|aj t6<|aj Z11<|aj Z0<|aj t32<|aj t33<|aj t51<|aj t59<|aj Z4<|aj t189<|aj Z1<|aj t196<|t197
def Tryz.FQ:=aj t1<|aj t2<|aj t3<|aj t4<|aj t5<|aj t20<|aj t33<|aj t45<|aj t47<|aj r47<|aj t110<|r110
def Tryz.F07:=aj t1<|aj t2<|aj t3<|aj t4<|aj t33<|aj t45<|aj t48<|aj Z13<|Z8
theorem kU{h0:Hp}(a:h0.t.Sized h0.n){c:Int}:Ret zM 52 [.bool true,.int .i64 c] h0 fun _ h'=>Gr h0 h':=by
 have S:=Si a
 refine ae (n:=9) (rs:=[]) rfl Tryz.e52 rfl rfl rfl (lbt rfl) ?_
 simp only [BS,LB,Nat.reduceLT,Nat.reduceEqDiff]
 exact S.gr
def og(c:Int):Value:=.iface 110 (.agg ⟨[.int .i64 c]⟩)
theorem oW{h0:Hp}(a:h0.t.Sized h0.n){c:Int}:du zM 52 [.bool false,.int .i64 c] none h0 fun o b h'=>o=.pan (og c)/\Gr h0 h':=by
 have S:=Si a
 refine enter (n:=9) (rs:=[]) rfl Tryz.e52 rfl rfl rfl (lbt rfl) ?_
 simp only [BS,LB,Nat.reduceLT,Nat.reduceEqDiff,F0x]
 exact cZ (cq ⟨rfl,S.gr⟩)
section
variable{h0:Hp}{bp nb s w:Nat}{γ:Gra}
theorem v8(a:h0.t.Sized h0.n)(c:bL h0 nb (ptrTo bp) γ){b3:Nat}(l:h0.load b3 0 1=some [ptrTo bp]){v:Nat}(b:v<γ.nodes):bI zM 107 [.int .i64 (v:Nat),ptrTo b3] h0 (.bool true):=by
 have S:=Si a
 have d:(0:Int)<=(v:Int):=by omega
 refine ae (n:=12) (rs:=[.tmp 3]) rfl X8 rfl rfl rfl (lbt rfl) ?_
 simp only [BS,LB,Nat.reduceLT,Nat.reduceEqDiff,F0y,l,d]
 refine an (cU S.ok (c.gr S.gr)) ?_;intro h g;replace S:=S.call g;clear g
 simp only [BS,LB,ac,Nat.reduceLT,Nat.reduceEqDiff,aW,b]
 exact S.gr
theorem vm(a:h0.t.Sized h0.n){b3:Nat}(l:h0.load b3 0 1=some [ptrTo bp]):Ret zM 108 [ptrTo b3] h0 fun _ h'=>Gr h0 h':=by
 have S:=Si a
 refine ae (n:=4) (rs:=[]) rfl Tryz.e108 rfl rfl rfl (lbt rfl) ?_
 simp only [BS,LB,Nat.reduceLT,Nat.reduceEqDiff,F0z,l]
 refine step_ret (kU S.ok) ?_
 intro r h g;replace S:=S.call g;clear g
 simp only [BS]
 exact S.gr
theorem vu(a:h0.t.Sized h0.n)(c:bL h0 nb (ptrTo bp) γ){b3 b5 b6:Nat}(b:h0.load b3 0 1=some [ptrTo bp])(d:h0.load b6 0 1=some [.func (.func 107) #[] #[ptrTo b3]])(e:h0.load b5 1 1=some [.int .i64 (s:Nat)])(f:s<γ.nodes):Ret zM 109 [ptrTo b6,ptrTo b5] h0 fun _ h'=>Gr h0 h':=by
 have S:=Si a
 refine ae (n:=7) (rs:=[]) rfl Tryz.e109 rfl rfl rfl (lbt rfl) ?_
 simp only [BS,LB,Nat.reduceLT,Nat.reduceEqDiff,F0A,d,e]
 refine an (v8 S.ok c b f) ?_
 intro h g;replace S:=S.call g;clear g
 simp only [BS,LB,Nat.reduceLT,Nat.reduceEqDiff]
 refine step_ret (kU S.ok) ?_
 intro r h g;replace S:=S.call g;clear g
 simp only [BS]
 exact S.gr
theorem vd(a:h0.t.Sized h0.n)(c:bL h0 nb (ptrTo bp) γ){b3 b5 b6:Nat}(b:h0.load b3 0 1=some [ptrTo bp])(d:h0.load b6 0 1=some [.func (.func 107) #[] #[ptrTo b3]])(e:h0.load b5 2 1=some [.int .i64 (w:Nat)])(f:w<γ.nodes):Ret zM 110 [ptrTo b6,ptrTo b5] h0 fun _ h'=>Gr h0 h':=by
 have S:=Si a
 refine ae (n:=7) (rs:=[]) rfl Tryz.e110 rfl rfl rfl (lbt rfl) ?_
 simp only [BS,LB,Nat.reduceLT,Nat.reduceEqDiff,F0B,d,e]
 refine an (v8 S.ok c b f) ?_
 intro h g;replace S:=S.call g;clear g
 simp only [BS,LB,Nat.reduceLT,Nat.reduceEqDiff]
 refine step_ret (kU S.ok) ?_
 intro r h g;replace S:=S.call g;clear g
 simp only [BS]
 exact S.gr
theorem asked5_ok(e:h0.t.Sized h0.n)(c:bL h0 nb (ptrTo bp) γ){m:Nat}{f:Value}{l:List Int}{R Q:Nat->List Int}(t:TabAt h0 m f γ.nodes l R Q)(D:l.length<=16)(x:1<=l.length){b3 b4:Nat}(i:h0.load b3 0 1=some [ptrTo bp])(g:h0.load b4 0 1=some [f]):Ret zM 111 [ptrTo b4,ptrTo b3] h0 fun _ h'=>Gr h0 h':=by
 have S:=Si e
 have E:Fl f:=by obtain⟨b,_,_,_,rfl,_⟩:=t.ex;exact dC
 have y:=bD e i
 have z:=bD e g
 have A:(0:Int)<(l.length:Int):=by omega
 refine ae (n:=14) (rs:=[]) rfl Tryz.e111 rfl rfl rfl (lbt rfl) ?_
 simp only [BS]
 refine ud (by kernel_rfl) (aJ rfl) (q:=0) (ps:=[(6,7)]) (by kernel_rfl) ?_
 simp only [List.length_cons,List.length_nil,Nat.reduceAdd,Nat.reduceSub,Xr,Xg,Xq,X7,Xl]
 simp only [BS,LB,cls,Nat.reduceLT,Nat.reduceEqDiff,Nat.reducePow,Nat.reduceDiv,Nat.reduceMod,Nat.reduceLeDiff,FF,g]
 refine cV (jJ S.ok (t.gr S.gr) (by omega)) ?_
 rintro r x ⟨a,B,_⟩
 replace S:=S.call a
 have j:=ao a z
 have k:=ao a y
 simp only [BS,LB,cls,Nat.reduceLT,Nat.reduceEqDiff,Nat.reduceAdd,Nat.reducePow,Nat.reduceDiv,Nat.reduceMod,Nat.reduceLeDiff,FF,B.lenq,A,a.load g]
 refine cD (me S.ok (t.gr S.gr)) ?_
 intro F d
 have G:=a.n
 have H:=d.n
 have o:=ao d (show b4<_ by omega)
 have p:=ao d (show b3<_ by omega)
 replace S:=S.call d
 simp only [BS,LB,cls,Nat.reduceLT,Nat.reduceEqDiff,Nat.reduceAdd,Nat.reducePow,Nat.reduceDiv,Nat.reduceMod,Nat.reduceLeDiff,FF,d.load (a.load i)]
 refine cD (cU S.ok (c.gr S.gr)) ?_
 intro I h
 have u:=ao h (show b4<_ by omega)
 have v:=ao h (show b3<_ by omega)
 replace S:=S.call h
 simp only [BS,LB,cls,Nat.reduceLT,Nat.reduceEqDiff,Nat.reduceAdd,Nat.reducePow,Nat.reduceDiv,Nat.reduceMod,Nat.reduceLeDiff]
 refine⟨by simp only [bj,bA,aS,bK,aY,ne_eq,not_false_eq_true,bJ,cb,a9,aX,cu,cR,aO,Nat.reduceLT,Nat.reduceEqDiff,reduceIte,Xc,ab,cL,au k,av k,au j,av j,au p,av p,au o,av o,au v,av v,au u,av u],?_⟩
 try simp only [BS,LB,RetQ,iP,cd,iI,cls,touch,dH,ag,ac,n_new,Nat.reduceLT,Nat.reduceEqDiff,Nat.reduceAdd,Nat.reduceSub,Nat.reduceBEq,reduceIte,decide_eq_true_eq,XR,decide_eq_false_iff_not,XE,Nat.reducePow,Nat.reduceDiv,Nat.reduceMod,Nat.reduceLeDiff,XZ,XL,Int.reduceToNat,Int.reduceLE,Int.reduceLT,Int.reduceAdd,Int.reduceSub,XF,Xb,Nat.reduceMul,XH,XI,Xm,Xn,FF,ab]
 refine step_ret (kU S.ok) ?_
 intro r J C
 replace S:=S.call C
 simp only [BS]
 exact S.gr
theorem vg{a b c d:FuncId}{a1 a2 a3 e:Array Value}:js zM 197 [(0,.func (.func a) #[] a1),(1,.func (.func b) #[] a2),(2,.func (.func c) #[] a3),(3,.func (.func d) #[] e)]=some (.agg ⟨[.func (.func a) #[] a1,.func (.func b) #[] a2,.func (.func c) #[] a3,.func (.func d) #[] e]⟩):=by
 unfold js
 rw [Tryz.t197.2.2.2.1,Tryz.t197.1]
 simp only [Tryz.t1.2.1]
 rfl
theorem iG{a b c d:FuncId}{a1 a2 a3 e:Array Value}:iB zM 197 (.agg ⟨[.func (.func a) #[] a1,.func (.func b) #[] a2,.func (.func c) #[] a3,.func (.func d) #[] e]⟩) (.int .i64 0)=some (.func (.func a) #[] a1)/\
 iB zM 197 (.agg ⟨[.func (.func a) #[] a1,.func (.func b) #[] a2,.func (.func c) #[] a3,.func (.func d) #[] e]⟩) (.int .i64 1)=some (.func (.func b) #[] a2)/\
 iB zM 197 (.agg ⟨[.func (.func a) #[] a1,.func (.func b) #[] a2,.func (.func c) #[] a3,.func (.func d) #[] e]⟩) (.int .i64 2)=some (.func (.func c) #[] a3)/\
 iB zM 197 (.agg ⟨[.func (.func a) #[] a1,.func (.func b) #[] a2,.func (.func c) #[] a3,.func (.func d) #[] e]⟩) (.int .i64 3)=some (.func (.func d) #[] e):=by
 unfold iB
 rw [Tryz.t197.1]
 simp only [Tryz.t1.2.1]
 refine⟨?_,?_,?_,?_⟩<;>rfl
theorem asked_ok(C:h0.t.Sized h0.n)(c:bL h0 nb (ptrTo bp) γ){m:Nat}{q u:Value}{l:List Int}{R Q:Nat->List Int}(t:TabAt h0 m q γ.nodes l R Q)(D:l.length<=16)(E:1<=l.length){a:Int}(P:Fl u)(F:s<γ.nodes)(G:w<γ.nodes):
 Ret zM 48 [ptrTo bp,q,.agg ⟨[u,.int .i64 (s:Nat),.int .i64 (w:Nat),.int .i64 a]⟩] h0 fun _ h'=>Gr h0 h':=by
 have T:Fl q:=by obtain⟨b,_,_,_,rfl,_⟩:=t.ex;exact dC
 have S:=Si C
 refine ae (n:=21) (rs:=[]) rfl Tryz.e48 rfl rfl rfl (lbt rfl) ?_
 simp only [BS,Nat.reduceLT]
 refine ah (cP (by exact dC)) S ?_;clear S;intro h H S v
 simp only [BS,Nat.reduceLT,Nat.reduceEqDiff,if_false]
 refine ah (cP (by assumption)) S ?_;clear S;intro h I S y
 simp only [BS,Nat.reduceLT,Nat.reduceEqDiff,if_false]
 refine ah (a8 (by intro x e;cases e)) S ?_;clear S;intro h z S A;simp only [ag]at S
 simp only [BS,LB,Nat.reduceLT,Nat.reduceEqDiff,F06]
 refine ah aA S ?_;clear S;intro h J S B
 simp only [BS,LB,Nat.reduceLT,Nat.reduceEqDiff]
 refine aC (aI S (i:=0) rfl ?_ ?_ ?_ ono) ?_
 . exact(by simp only [F06])
 . exact(by exact gI)
 . exact Xu (lbt rfl)
 clear S;rintro h ⟨S,K⟩;clear K;simp only [LC,ag,lay,Xj,Xk,Nat.reduceAdd]at S
 have j:=S.ld (b:=H) (o:=0) m3 rfl
 have p:=S.ld (b:=I) (o:=0) m2 rfl
 have d:=S.ld (b:=z) (o:=1) m1 rfl
 have f:=S.ld (b:=z) (o:=2) m1 rfl
 have k:=S.ld (b:=J) (o:=0) m0 rfl
 have L:aq .i64 1=1:=rfl
 have M:aq .i64 2=2:=rfl
 have N:aq .i64 3=3:=rfl
 have O:aq .i64 4=4:=rfl
 simp only [BS,LB,Nat.reduceLT,Nat.reduceEqDiff,vg]
 rw [aZ]
 simp only [BS,LB,Nat.reduceLT,Nat.reduceEqDiff,Int.reduceLT,iG]
 refine step_ret (vm S.ok j) ?_
 intro r h g;replace S:=S.call g
 replace j:=g.load j;replace p:=g.load p;replace d:=g.load d;replace f:=g.load f;replace k:=g.load k;clear g
 simp only [BS,LB,Nat.reduceLT,Nat.reduceEqDiff,Int.reduceAdd,L]
 rw [aZ]
 simp only [BS,LB,Nat.reduceLT,Nat.reduceEqDiff,Int.reduceLT,iG]
 refine step_ret (vu S.ok (c.gr S.gr) j k d F) ?_
 intro r h g;replace S:=S.call g
 replace j:=g.load j;replace p:=g.load p;replace d:=g.load d;replace f:=g.load f;replace k:=g.load k;clear g
 simp only [BS,LB,Nat.reduceLT,Nat.reduceEqDiff,Int.reduceAdd,M]
 rw [aZ]
 simp only [BS,LB,Nat.reduceLT,Nat.reduceEqDiff,Int.reduceLT,iG]
 refine step_ret (vd S.ok (c.gr S.gr) j k f G) ?_
 intro r h g;replace S:=S.call g
 replace j:=g.load j;replace p:=g.load p;replace d:=g.load d;replace f:=g.load f;replace k:=g.load k;clear g
 simp only [BS,LB,Nat.reduceLT,Nat.reduceEqDiff,Int.reduceAdd,N]
 rw [aZ]
 simp only [BS,LB,Nat.reduceLT,Nat.reduceEqDiff,Int.reduceLT,iG]
 refine step_ret (asked5_ok S.ok (c.gr S.gr) (t.gr S.gr) D E j p) ?_
 intro r h g;replace S:=S.call g;clear g
 simp only [BS,LB,Nat.reduceLT,Nat.reduceEqDiff,Int.reduceAdd,O]
 rw [aZ]
 simp only [BS,LB,Nat.reduceLT,Nat.reduceEqDiff,Int.reduceLT]
 exact S.gr
theorem wQ(a:h0.t.Sized h0.n){b:Nat}:du zM 47 [ptrTo b] none h0 fun o c h'=>(∃v,o=.ret v)/\c=none/\Gr h0 h':=by
 have S:=Si a
 refine enter (n:=18) (rs:=[]) rfl Tryz.e47 rfl rfl rfl (lbt rfl) ?_
 simp only [BS,LB,Nat.reduceLT,Nat.reduceEqDiff,FQ]
 exact dT (cq ⟨rfl,_,rfl,⟨_,rfl⟩,rfl,S.gr⟩)
theorem v7(k:h0.t.Sized h0.n){b:Nat}{a:List Value}(R:Row h0 b a 1)(d:a.length=4){c:Int}:du zM 47 [ptrTo b] (some (og c,false)) h0 fun o l h'=>(∃v,o=.ret v)/\l=some (og c,true)/\Mo (· =b) h0 h'/\Row h' b [.int .i64 c,.int .i64 0,.slice none 0 0,.slice none 0 0] 1:=by
 have S:=St.init1 k (o:=.row a 1) R
 refine enter (n:=18) (rs:=[]) rfl Tryz.e47 rfl rfl rfl (lbt rfl) ?_
 simp only [BS,LB,Nat.reduceLT,Nat.reduceEqDiff,FQ,og]
 refine ah aA S ?_;clear S;intro h m S f
 simp only [BS,LB,Nat.reduceLT,Nat.reduceEqDiff]
 refine aC (S.store (i:=0) rfl ?_ ?_ rfl rfl ?_ ono) ?_
 . exact(by exact Tryz.t110.2.1)
 . exact(by intro x e;cases e)
 . exact lbt rfl
 clear S;rintro h ⟨S,g⟩;clear g;simp only [LC,ag,lay,Xj,Xk,Nat.reduceAdd]at S
 simp only [BS,LB,Nat.reduceLT,Nat.reduceEqDiff,Nat.reduceAdd,FQ,S.ld (b:=m) (o:=0) m0 rfl]
 refine aC (S.store (i:=1) rfl Tryz.t47.2.1 (by intro x e;cases e) rfl rfl (by rw [d];exact XX _) ono) ?_
 clear S;rintro q ⟨S,g⟩
 simp only [LC]at S
 have j:=S.row (b:=b) m1
 have p:lay a 0 (ag (.agg ⟨[.int .i64 c,.int .i64 0,.slice none 0 0,.slice none 0 0]⟩))=[.int .i64 c,.int .i64 0,.slice none 0 0,.slice none 0 0]:=by
  match a,d with
  | [_,_,_,_],_=>rfl
 rw [p]at j
 simp only [BS]
 exact dT (cq ⟨rfl,_,rfl,⟨_,rfl⟩,rfl,S.fr,j⟩)
theorem got_ok(j:h0.t.Sized h0.n){d:Int}{a vE:Value}(k:Fl a)(l:Fl vE):Ret zM 49 [.agg ⟨[.int .i64 d,a,vE]⟩,.int .i64 0] h0 fun r h'=>Gr h0 h'/\r=.agg ⟨[.int .i64 d,a,vE]⟩:=by
 have S:=Si j
 refine ae (n:=10) (rs:=[.cell 4 114]) rfl Tryz.e49 rfl rfl rfl (lbt rfl) ?_
 simp only [BS,Nat.reduceLT]
 refine ah (a8 (by intro x e;cases e)) S ?_;clear S;intro h m S c;simp only [ag]at S
 simp only [BS,F07]
 refine ah aA S ?_;clear S;intro h p S f
 simp only [BS,LB,Nat.reduceLT,Nat.reduceEqDiff]
 refine step_ret (kU S.ok) ?_
 intro r h g;replace S:=S.call g;clear g
 simp only [BS,LB,Nat.reduceLT,Nat.reduceEqDiff,F07,Xl,Xg,Xq,S.lds (b:=m) (o:=0) (n:=3) m1 (lbt rfl)]
 refine aC (S.store (i:=0) rfl Tryz.t114.2.1 (by intro x e;cases e) rfl (by simp only [ag,Xs,Xv,k.2.1,l.2.1,Xc];rfl) (lbt rfl) ono) ?_
 clear S;rintro q ⟨S,t⟩
 simp only [LC,ag,lay,Xj,Xk,Nat.reduceAdd]at S
 simp only [BS,ac]
 refine(eu (by decide) (by simp only [aO,ab,Nat.reduceEqDiff,reduceIte];exact cF Tryz.t114.1 Tryz.t114.2.1 (S.lds (b:=p) (o:=0) (n:=3) m0 (lbt rfl)))).2 (eJ.2 ?_)
 exact⟨S.gr,rfl⟩
end
end Go.Ab

end
section
namespace Go.Ab
open Go.Proofs
set_option maxRecDepth 10000
def Tryz.Fk:=aj t1<|aj t2<|aj t3<|aj t4<|aj t5<|aj t6<|aj Z3<|aj Z5<|aj t9<|aj t24<|aj Z11<|aj Z0<|aj t32<|aj t33<|aj t45<|aj t47<|aj r47<|aj t48<|aj t51<|aj t59<|aj t74<|aj Z13<|aj Z8<|aj Z9<|aj Z4<|aj t189<|Z1
def twL(N:Nat)(l:List Int)(R Q:Nat->List Int)(a:List Int)(s w:Nat):List Int:=(Xa N).map fun(v:Nat)=>rh (jQ N l.length R Q v w a) (jQ N l.length R Q s v a)
def natI(l:List Nat):List Int:=l.map fun(x:Nat)=>(x:Int)
theorem zW{h0:Hp}(ok:h0.t.Sized h0.n){bp nb m:Nat}{k:Gra}(G:Good k)(hn:bL h0 nb (ptrTo bp) k){X q0:Value}{l:List Int}{R Q:Nat->List Int}(t:TabAt h0 m X k.nodes l R Q)(lR: ∀i,i<l.length->(R i).length=k.nodes)(lQ: ∀i,i<l.length->(Q i).length=k.nodes)(hl:l.length<=16)(h1:1<=l.length)(fq:Fl q0){s w:Nat}(Y:s<k.nodes)(Z:w<k.nodes){a:Int}:
 Ret zM 11 [ptrTo bp,X,.agg ⟨[q0,.int .i64 (s:Nat),.int .i64 (w:Nat),.int .i64 a]⟩] h0 fun r h'=>Gr h0 h'/\ ∃c d H F vE,r=.tuple #[ansV c d H F,vE]/\(∀x,(ar H x\/ar F x\/ar vE x)->h0.n<=x)/\
  ((s =w/\c=0/\d=0/\H=.slice none 0 0/\F=.slice none 0 0/\vE=.slice none 0 0)\/
   (s ≠w/\ ∃τ,mM k.arcs (fun _=>true) (fun v=>(twL k.nodes l R Q (natI (actL k.nodes l.length R Q s w a)) s w).getD v 0) (kC (fun v=>(twL k.nodes l R Q (natI (actL k.nodes l.length R Q s w a)) s w).getD v 0) s w) τ/\
     az h' 4 ig vE τ.ev/\
     ((FAR<=τ.dist/\c=20/\d=0/\H=.slice none 0 0/\F=.slice none 0 0)\/
      (τ.dist<FAR/\c=0/\d=(τ.dist:Nat)/\az h' 1 cI H (arcsB τ)/\az h' 1 cI F (actL k.nodes l.length R Q s w a))))):=by
 have S:=Si ok
 have ft:Fl X:=by obtain⟨b,_,_,_,rfl,_⟩:=t.ex;exact dC
 have ay:=jm
 refine ae (n:=59) (rs:=[.cell 6 47,.tmp 7]) rfl Tryz.e11 rfl rfl rfl (lbt rfl) ?_
 simp only [BS,Nat.reduceLT]
 refine ah (a8 (by intro x e;cases e)) S ?_;clear S;intro h u S al;simp only [ag]at S
 simp only [BS,Fk]
 refine ah aA S ?_;clear S;intro h y S I
 simp only [BS,LB,Nat.reduceLT,Nat.reduceEqDiff,Fk,Xl,Xg,Xq,S.lds (b:=u) (o:=0) (n:=4) m1 (lbt rfl)]
 refine step_ret (asked_ok S.ok (hn.gr S.gr) (t.gr S.gr) hl h1 fq Y Z) ?_
 intro r h g;replace S:=S.call g;clear g
 by_cases z:s=w
 . subst z
   simp only [BS,LB,Nat.reduceLT,Nat.reduceEqDiff,Fk,Xl,Xg,Xq,S.ld (b:=u) (o:=1) m1 rfl,S.ld (b:=u) (o:=2) m1 rfl,S.lds (b:=y) (o:=0) (n:=4) m0 (lbt rfl)]
   refine aC (S.store (i:=0) rfl Tryz.t47.2.1 (by intro x e;cases e) rfl rfl (lbt rfl) ono) ?_
   clear S;rintro h3 ⟨S,mo⟩
   simp only [LC,ag,lay,Xj,Xk,Nat.reduceAdd]at S
   simp only [BS]
   refine gW (un_fn (eW (wQ S.ok) fun o rc h' ⟨a,b,g⟩=>⟨a,b,cq ⟨rfl,?_⟩⟩))
   replace S:=S.call g
   refine(eu (by decide) (by simp only [aO,ab,Nat.reduceEqDiff,reduceIte];exact cF Tryz.t47.1 Tryz.t47.2.1 (S.lds (b:=y) (o:=0) (n:=4) m0 (lbt rfl)))).2 ?_
   refine(eQ (by decide)).2 (eJ.2 ?_)
   exact⟨S.gr,_,_,_,_,_,rfl,fun x J=>(by rcases J with h|h|h<;>exact h.elim),.inl ⟨rfl,rfl,rfl,rfl,rfl⟩⟩
 . have ad: ¬((s:Int)=(w:Int)):=by omega
   simp only [BS,LB,Nat.reduceLT,Nat.reduceEqDiff,Fk,ad,S.ld (b:=u) (o:=1) m1 rfl,S.ld (b:=u) (o:=2) m1 rfl,S.ld (b:=u) (o:=3) m1 rfl]
   have k6:=(S.row (b:=y) m0).lt S.ok
   refine step_ret (An S.ok (t.gr S.gr) lR lQ hl) ?_
   rintro F h ⟨g,P,nB⟩
   replace S:=S.call g;clear g
   have la:(actL k.nodes l.length R Q s w a).length<=16:=by unfold actL;rw [XD];omega
   have R5:=S.row (b:=u) m1
   have R6:=S.row (b:=y) m0
   have S0:=S
   have gV:=S.gr
   have kV:=gV.n
   have A:=S.ok
   have af:=R5.load1 (o:=1) rfl
   have ai:=R5.load1 (o:=2) rfl
   have p5:=R5.lt A
   have f1:=G.n2
   simp only [BS,LB,Nat.reduceLT,Nat.reduceEqDiff]
   clear S
   have S:=Si A
   rename Hp=>hV
   refine aE (kh (ord:=[17,0,1,2,3,4,5,6,7,8,9,10,11,12,13,14,15,16,18]) rfl rfl (by simp only [dv,kX,dU,List.getElem?_cons_zero,List.getElem?_cons_succ,List.map_toArray,XB,XT,Nat.reduceBEq,cond_true,cond_false];exact rfl)) (q:=1) (ps:=[(0,17),(0,14),(5,12),(3,12),(0,12)]) (by kernel_rfl) ?_
   simp only [BS,LB,cls,Nat.reducePow,Nat.reduceDiv,Nat.reduceMod,Nat.reduceLeDiff,Fk]
   refine df aA S ?_;clear S;intro h C S ax K
   have p9:=S.fr.n
   have T:=S.gr
   have L:=S.row (b:=C) m0
   have q9:=L.lt S.ok
   simp only [BS,LB,cls,Nat.reduceLT,Nat.reduceEqDiff,Nat.reduceAdd,Nat.reducePow,Nat.reduceDiv,Nat.reduceMod,Nat.reduceLeDiff,Fk,T.load af,T.load ai]
   refine cV (bTwin_ok S.ok ((t.gr gV).gr T) lR lQ (by omega) (by omega) (sl_nat (P.gr T)) (by rw [Xx];omega) Y Z) ?_
   rintro vP h ⟨g,sP,nP⟩
   have e1:leaves _ _ u=true:=ao g (XJ p5 p9)
   have e2:leaves _ _ C=true:=ao g q9
   have kq:=g.n
   replace S:=S.call g;clear g
   simp only [BS,LB,cls,Nat.reduceLT,Nat.reduceEqDiff,Nat.reduceAdd,Nat.reducePow,Nat.reduceDiv,Nat.reduceMod,Nat.reduceLeDiff,Fk,sP.fl]
   refine cV (Au S.ok G ((hn.gr gV).gr S.gr) sP (by simp) Y Z z) ?_
   rintro r h ⟨g,xA,xE,τ,rfl,he,U,V,j⟩
   have e3:leaves _ _ u=true:=ao g (XJ p5 (Xh p9 kq))
   have e4:leaves _ _ C=true:=ao g (XJ q9 kq)
   have kr:=g.n
   have W:Fl xA:=V.fl
   have y2:Fl xE:=U.fl
   replace S:=S.call g
   simp only [BS,LB,cls,Nat.reduceLT,Nat.reduceEqDiff,Nat.reduceAdd,Nat.reducePow,Nat.reduceDiv,Nat.reduceMod,Nat.reduceLeDiff]
   refine cV (got_ok S.ok W y2) ?_
   rintro r h ⟨g,rfl⟩
   have e5:leaves _ _ u=true:=ao g (by omega)
   have e6:leaves _ _ C=true:=ao g (by omega)
   have U:=U.gr g
   have V:=V.gr g
   replace S:=S.call g
   simp only [BS,LB,cls,Nat.reduceLT,Nat.reduceEqDiff,Nat.reduceAdd,Nat.reducePow,Nat.reduceDiv,Nat.reduceMod,Nat.reduceLeDiff]
   refine dP (S.store (i:=0) rfl Tryz.t114.2.1 (by intro x e;cases e) rfl (by simp only [ag,Xs,Xv,W.2.1,y2.2.1,Xc];rfl) (lbt rfl) ono) ?_
   have aL:=S.ok
   have M: ∀c,ar xA c\/ar xE c->c≠C:=fun c p e=>by
    have:=j c p
    omega
   clear S;rintro h3 ⟨S,mo⟩
   simp only [LC,ag,lay,Xj,Xk,Nat.reduceAdd]at S
   simp only [BS,LB,Nat.reduceLT,Nat.reduceEqDiff,Nat.reduceAdd,Fk]
   refine⟨by simp only [bj,bA,aS,bK,aY,ne_eq,not_false_eq_true,bJ,cb,a9,aX,cu,cR,aO,Nat.reduceLT,Nat.reduceEqDiff,reduceIte,Xc,ab,jC,av e1,au e1,av e2,au e2,av e3,au e3,av e4,au e4,av e5,au e5,av e6,au e6,<-K],?_⟩
   have L:=S.row (b:=C) m0
   have j0:=L.load1 (o:=0) rfl
   have j1:=L.load1 (o:=1) rfl
   have j2:=L.load1 (o:=2) rfl
   have n9:y≠C:=fun e=>by have:=(S0.row (b:=y) m0).lt A;omega
   have N:az h3 1 cI xA _:=V.mo mo (fun c p e=>M c (.inl p) e)
   have O:az h3 4 ig xE τ.ev:=U.mo mo (fun c p e=>M c (.inr p) e)
   have ak:=P.gr S.gr
   have k5:=(S0.row (b:=y) m0).lt A
   have S1:=S0.call S.gr
   clear S
   have S:=S1
   clear S1
   simp only [BS,LB,Nat.reduceLT,Nat.reduceEqDiff,Fk,j0,j2]
   by_cases hd:τ.dist<FAR
   . have D:(τ.dist:Int)<72057594037927936:=by omega
     simp only [decide_true,D]
     refine step_ret (kU S.ok) ?_
     intro r h4 B
     replace S:=S.call B
     simp only [BS,LB,Nat.reduceLT,Nat.reduceEqDiff,Nat.reduceAdd,Fk,W,P.fl,B.load j0,B.load j1]
     refine aC (S.store (i:=0) rfl Tryz.t47.2.1 (by intro x e;cases e) rfl (by simp only [ag,Xs,Xv,W.2.1,P.fl.2.1,Xc];rfl) (lbt rfl) ono) ?_
     clear S;rintro h5 ⟨S,E⟩
     simp only [LC,ag,lay,Xj,Xk,Nat.reduceAdd]at S
     simp only [BS,LB,Nat.reduceLT,Nat.reduceEqDiff]
     refine gW (un_fn (eW (wQ S.ok) fun o rc h' ⟨a,b,g⟩=>⟨a,b,cq ⟨rfl,?_⟩⟩))
     replace S:=S.call g
     refine(eu (by decide) (by simp only [aO,ab,Nat.reduceEqDiff,reduceIte];exact cF Tryz.t47.1 Tryz.t47.2.1 (S.lds (b:=y) (o:=0) (n:=4) m0 (lbt rfl)))).2 ?_
     refine(eQ (by decide)).2 (eJ.2 ?_)
     rw [if_pos hd]at N
     have zE:=((O.gr B).mo E (fun c p e=>by have:=j c (.inr p);omega)).gr g
     have zA:=((N.gr B).mo E (fun c p e=>by have:=j c (.inl p);omega)).gr g
     have zB:=((ak.gr B).mo E (fun c p e=>by have:=nB c p;omega)).gr g
     exact⟨S.gr,_,_,_,_,_,rfl,fun x J=>(by rcases J with h|h|h;(have:=j x (.inl h);omega);(have:=nB x h;omega);(have:=j x (.inr h);omega)),.inr ⟨z,τ,he,zE,.inr ⟨hd,rfl,rfl,zA,zB⟩⟩⟩
   . have D: ¬(τ.dist:Int)<72057594037927936:=by omega
     simp only [decide_false,D]
     refine dV (oW S.ok) ?_
     rintro x rc h4 ⟨rfl,B⟩
     replace S:=S.call B
     simp only [BS]
     refine cZ (vI (eW (v7 S.ok (S.row (b:=y) m0) rfl) fun o rc h' ⟨a,e,f,R⟩=>⟨a,_,_,e,cq ?_⟩))
     have gz:Gr h0 h':=(S.fr.trans f (fun i hi=>.inr (by subst hi;exact I)):Mo NoM h0 h').gr
     simp only [if_true]
     refine(eu (by decide) (by simp only [aO,ab,Nat.reduceEqDiff,reduceIte];exact cF Tryz.t47.1 Tryz.t47.2.1 (R.load (o:=0) (n:=4) (lbt rfl)))).2 ?_
     refine(eQ (by decide)).2 (eJ.2 ?_)
     have zE:=(O.gr B).mo f (fun c p e=>by have:=j c (.inr p);omega)
     exact⟨gz,_,_,_,_,_,rfl,fun x J=>(by rcases J with h|h|h;exact h.elim;exact h.elim;(have:=j x (.inr h);omega)),.inr ⟨z,τ,he,zE,.inl ⟨by omega,rfl,rfl,rfl,rfl⟩⟩⟩
structure Rl where
 g:FuncId
 post:Array Value
 ok:Bool
 code:Int
theorem TabO.gr{E:Env}{h h':Hp}{a:Value}{nd mk:Nat}{b c:FuncId}(T:TabO E h a nd mk b c)(g:Gr h h'):TabO E h' a nd mk b c:=⟨T.fl,fun x k=>T.marks x (g.trans k),fun x k=>T.nodes x (g.trans k)⟩
end Go.Ab
end
section
namespace Go.Ab
open Go.Proofs
set_option maxRecDepth 10000
def Tryz.F08:=aj t1<|aj t3<|aj t4<|aj Z0<|aj t32<|aj t189<|Z1
def Tryz.F0C:=aj t1<|aj t3<|aj t4<|aj Z11<|aj t45<|t196
def Tryz.F0D:=aj t2<|aj t3<|aj t4<|aj Z11<|aj t45<|t196
def Tryz.Fu:=aj t3<|aj t4<|aj Z0<|aj t32<|aj t33<|aj t45<|aj t51<|aj t59<|aj Z4<|aj t189<|Z1
def Tryz.F09:=aj t1<|aj t2<|aj t3<|aj t4<|aj t5<|aj t6<|aj Z11<|aj Z0<|aj t32<|aj t33<|aj t51<|aj t59<|aj Z4<|aj t189<|aj Z1<|aj t196<|t197
def Tryz.F0a:=aj t1<|aj t2<|aj t3<|aj t4<|aj t5<|aj t6<|aj Z3<|aj Z5<|aj t9<|aj t24<|aj Z11<|aj Z0<|aj t32<|aj t33<|aj t45<|aj t47<|aj r47<|aj t48<|aj t51<|aj t59<|aj t74<|aj Z13<|aj Z8<|aj Z9<|aj Z4<|aj t189<|Z1
def Tryz.Fq:=aj t1<|aj t2<|aj t3<|aj t4<|aj t5<|aj t6<|aj Z3<|aj t24<|aj Z11<|aj t29<|aj Z0<|aj t45<|Z2
section
variable{h0:Hp}{bp nb:Nat}{γ:Gra}
theorem tt(d:h0.t.Sized h0.n)(c:bL h0 nb (ptrTo bp) γ){b3:Nat}(l:h0.load b3 0 1=some [ptrTo bp]){v:Int}:bI zM 107 [.int .i64 v,ptrTo b3] h0 (.bool (decide (0<=v/\v<γ.nodes))):=by
 have S:=Si d
 by_cases a:(0:Int)<=v
 . by_cases b:v<(γ.nodes:Int)
   . rw [decide_eq_true (show 0<=v/\v<(γ.nodes:Int)from⟨a,b⟩)]
     refine ae (n:=12) (rs:=[.tmp 3]) rfl X8 rfl rfl rfl (lbt rfl) ?_
     simp only [BS,LB,Nat.reduceLT,Nat.reduceEqDiff,F08,l,a]
     refine an (cU S.ok (c.gr S.gr)) ?_;intro h g;replace S:=S.call g;clear g
     simp only [BS,LB,ac,Nat.reduceLT,Nat.reduceEqDiff,b]
     exact S.gr
   . rw [decide_eq_false (show¬(0<=v/\v<(γ.nodes:Int))from fun h=>b h.2)]
     refine ae (n:=12) (rs:=[.tmp 3]) rfl X8 rfl rfl rfl (lbt rfl) ?_
     simp only [BS,LB,Nat.reduceLT,Nat.reduceEqDiff,F08,l,a]
     refine an (cU S.ok (c.gr S.gr)) ?_;intro h g;replace S:=S.call g;clear g
     simp only [BS,LB,ac,Nat.reduceLT,Nat.reduceEqDiff,b]
     exact S.gr
 . rw [decide_eq_false (show¬(0<=v/\v<(γ.nodes:Int))from fun h=>a h.1)]
   refine ae (n:=12) (rs:=[.tmp 3]) rfl X8 rfl rfl rfl (lbt rfl) ?_
   simp only [BS,LB,ac,Nat.reduceLT,Nat.reduceEqDiff,a]
   exact S.gr
theorem asked3_no(a:h0.t.Sized h0.n)(c:bL h0 nb (ptrTo bp) γ){b3 b5 b6:Nat}{f:Int}(b:h0.load b3 0 1=some [ptrTo bp])(d:h0.load b6 0 1=some [.func (.func 107) #[] #[ptrTo b3]])(i:h0.load b5 1 1=some [.int .i64 f])(j: ¬(0<=f/\f<(γ.nodes:Int))):du zM 109 [ptrTo b6,ptrTo b5] none h0 fun o k h'=>o=.pan (og 17)/\Gr h0 h':=by
 have S:=Si a
 have e:=decide_eq_false j
 refine enter (n:=7) (rs:=[]) rfl Tryz.e109 rfl rfl rfl (lbt rfl) ?_
 simp only [BS,LB,Nat.reduceLT,Nat.reduceEqDiff,F0C,d,i]
 refine an (tt S.ok c b) ?_
 intro h g;replace S:=S.call g;clear g
 rw [e]
 simp only [BS,LB,Nat.reduceLT,Nat.reduceEqDiff]
 refine dV (oW S.ok) ?_
 rintro x k m ⟨rfl,l⟩
 replace S:=S.call l
 simp only [BS]
 exact cZ (cq ⟨rfl,S.gr⟩)
theorem asked4_no(a:h0.t.Sized h0.n)(c:bL h0 nb (ptrTo bp) γ){b3 b5 b6:Nat}{f:Int}(b:h0.load b3 0 1=some [ptrTo bp])(d:h0.load b6 0 1=some [.func (.func 107) #[] #[ptrTo b3]])(i:h0.load b5 2 1=some [.int .i64 f])(j: ¬(0<=f/\f<(γ.nodes:Int))):du zM 110 [ptrTo b6,ptrTo b5] none h0 fun o k h'=>o=.pan (og 18)/\Gr h0 h':=by
 have S:=Si a
 have e:=decide_eq_false j
 refine enter (n:=7) (rs:=[]) rfl Tryz.e110 rfl rfl rfl (lbt rfl) ?_
 simp only [BS,LB,Nat.reduceLT,Nat.reduceEqDiff,F0D,d,i]
 refine an (tt S.ok c b) ?_
 intro h g;replace S:=S.call g;clear g
 rw [e]
 simp only [BS,LB,Nat.reduceLT,Nat.reduceEqDiff]
 refine dV (oW S.ok) ?_
 rintro x k m ⟨rfl,l⟩
 replace S:=S.call l
 simp only [BS]
 exact cZ (cq ⟨rfl,S.gr⟩)
theorem asked5_no(g:h0.t.Sized h0.n)(c:bL h0 nb (ptrTo bp) γ){p:Value}{nd mk:Nat}(T:TabO zM h0 p nd mk 81 112){b3 b4:Nat}(s:h0.load b3 0 1=some [ptrTo bp])(h:h0.load b4 0 1=some [p])(A: ¬(0<mk/\nd=γ.nodes)):du zM 111 [ptrTo b4,ptrTo b3] none h0 fun o t h'=>o=.pan (og 19)/\Gr h0 h':=by
 have S:=Si g
 have F:=T.fl
 have B:=bD g s
 have C:=bD g h
 refine enter (n:=14) (rs:=[]) rfl Tryz.e111 rfl rfl rfl (lbt rfl) ?_
 simp only [BS]
 refine ud (by kernel_rfl) (aJ rfl) (q:=0) (ps:=[(6,7)]) (by kernel_rfl) ?_
 simp only [List.length_cons,List.length_nil,Nat.reduceAdd,Nat.reduceSub,Xr,Xg,Xq,X7,Xl]
 simp only [BS,LB,cls,Nat.reduceLT,Nat.reduceEqDiff,Nat.reducePow,Nat.reduceDiv,Nat.reduceMod,Nat.reduceLeDiff,Fu,h]
 refine cV (T.marks _ S.gr) ?_
 rintro r G ⟨a,i,u,rfl⟩
 replace S:=S.call a
 have d:=ao a C
 have f:=ao a B
 by_cases D:0<i.length
 . have j:(0:Int)<(i.length:Int):=by omega
   have k: ¬((nd:Int)=(γ.nodes:Int)):=fun e=>A ⟨D,by omega⟩
   simp only [BS,LB,cls,Nat.reduceLT,Nat.reduceEqDiff,Nat.reduceAdd,Nat.reducePow,Nat.reduceDiv,Nat.reduceMod,Nat.reduceLeDiff,Fu,u.lenq,j,a.load h]
   refine cD (T.nodes _ S.gr) ?_
   intro H b
   have I:=a.n
   have J:=b.n
   have v:=ao b (show b4<_ by omega)
   have w:=ao b (show b3<_ by omega)
   replace S:=S.call b
   simp only [BS,LB,cls,Nat.reduceLT,Nat.reduceEqDiff,Nat.reduceAdd,Nat.reducePow,Nat.reduceDiv,Nat.reduceMod,Nat.reduceLeDiff,Fu,b.load (a.load s)]
   refine cD (cU S.ok (c.gr S.gr)) ?_
   intro K l
   have y:=ao l (show b4<_ by omega)
   have z:=ao l (show b3<_ by omega)
   replace S:=S.call l
   simp only [BS,LB,cls,Nat.reduceLT,Nat.reduceEqDiff,Nat.reduceAdd,Nat.reducePow,Nat.reduceDiv,Nat.reduceMod,Nat.reduceLeDiff,k]
   refine⟨by simp only [bj,bA,aS,bK,aY,ne_eq,not_false_eq_true,bJ,cb,a9,aX,cu,cR,aO,Nat.reduceLT,Nat.reduceEqDiff,reduceIte,Xc,ab,cL,au f,av f,au d,av d,au w,av w,au v,av v,au z,av z,au y,av y],?_⟩
   try simp only [BS,LB,RetQ,iP,cd,iI,cls,touch,dH,ag,ac,n_new,Nat.reduceLT,Nat.reduceEqDiff,Nat.reduceAdd,Nat.reduceSub,Nat.reduceBEq,reduceIte,decide_eq_true_eq,XR,decide_eq_false_iff_not,XE,Nat.reducePow,Nat.reduceDiv,Nat.reduceMod,Nat.reduceLeDiff,XZ,XL,Int.reduceToNat,Int.reduceLE,Int.reduceLT,Int.reduceAdd,Int.reduceSub,XF,Xb,Nat.reduceMul,XH,XI,Xm,Xn,Fu,ab]
   refine dV (oW S.ok) ?_
   rintro x t E ⟨rfl,m⟩
   replace S:=S.call m
   simp only [BS]
   exact cZ (cq ⟨rfl,S.gr⟩)
 . have j: ¬(0:Int)<(i.length:Int):=by omega
   simp only [BS,LB,cls,Nat.reduceLT,Nat.reduceEqDiff,Nat.reduceAdd,Nat.reducePow,Nat.reduceDiv,Nat.reduceMod,Nat.reduceLeDiff,Fu,u.lenq,j]
   refine⟨by simp only [bj,bA,aS,bK,aY,ne_eq,not_false_eq_true,bJ,cb,a9,aX,cu,cR,aO,Nat.reduceLT,Nat.reduceEqDiff,reduceIte,Xc,ab,cL,au f,av f,au d,av d];rfl,?_⟩
   try simp only [BS,LB,RetQ,iP,cd,iI,cls,touch,dH,ag,ac,n_new,Nat.reduceLT,Nat.reduceEqDiff,Nat.reduceAdd,Nat.reduceSub,Nat.reduceBEq,reduceIte,decide_eq_true_eq,XR,decide_eq_false_iff_not,XE,Nat.reducePow,Nat.reduceDiv,Nat.reduceMod,Nat.reduceLeDiff,XZ,XL,Int.reduceToNat,Int.reduceLE,Int.reduceLT,Int.reduceAdd,Int.reduceSub,XF,Xb,Nat.reduceMul,XH,XI,Xm,Xn,Fu,ab]
   refine dV (oW S.ok) ?_
   rintro x t E ⟨rfl,m⟩
   replace S:=S.call m
   simp only [BS]
   exact cZ (cq ⟨rfl,S.gr⟩)
theorem asked_no(H:h0.t.Sized h0.n)(c:bL h0 nb (ptrTo bp) γ){z A:Value}{nd mk:Nat}(T:TabO zM h0 z nd mk 81 112){f t a:Int}(U:Fl A)(I:bg γ.nodes nd mk f t≠0):
 du zM 48 [ptrTo bp,z,.agg ⟨[A,.int .i64 f,.int .i64 t,.int .i64 a]⟩] none h0 fun o y h'=>o=.pan (og (bg γ.nodes nd mk f t))/\Gr h0 h':=by
 have V:=T.fl
 have S:=Si H
 refine enter (n:=21) (rs:=[]) rfl Tryz.e48 rfl rfl rfl (lbt rfl) ?_
 simp only [BS,Nat.reduceLT]
 refine ah (cP (by exact dC)) S ?_;clear S;intro h J S B
 simp only [BS,Nat.reduceLT,Nat.reduceEqDiff,if_false]
 refine ah (cP (by assumption)) S ?_;clear S;intro h K S C
 simp only [BS,Nat.reduceLT,Nat.reduceEqDiff,if_false]
 refine ah (a8 (by intro x e;cases e)) S ?_;clear S;intro h D S E;simp only [ag]at S
 simp only [BS,LB,Nat.reduceLT,Nat.reduceEqDiff,F09]
 refine ah aA S ?_;clear S;intro h L S F
 simp only [BS,LB,Nat.reduceLT,Nat.reduceEqDiff]
 refine aC (aI S (i:=0) rfl ?_ ?_ ?_ ono) ?_
 . exact(by simp only [F09])
 . exact(by exact gI)
 . exact Xu (lbt rfl)
 clear S;rintro h ⟨S,M⟩;clear M;simp only [LC,ag,lay,Xj,Xk,Nat.reduceAdd]at S
 have k:=S.ld (b:=J) (o:=0) m3 rfl
 have m:=S.ld (b:=K) (o:=0) m2 rfl
 have d:=S.ld (b:=D) (o:=1) m1 rfl
 have j:=S.ld (b:=D) (o:=2) m1 rfl
 have l:=S.ld (b:=L) (o:=0) m0 rfl
 have N:aq .i64 1=1:=rfl
 have O:aq .i64 2=2:=rfl
 have P:aq .i64 3=3:=rfl
 have W:aq .i64 4=4:=rfl
 simp only [BS,LB,Nat.reduceLT,Nat.reduceEqDiff,vg]
 rw [aZ]
 simp only [BS,LB,Nat.reduceLT,Nat.reduceEqDiff,Int.reduceLT,iG]
 refine step_ret (vm S.ok k) ?_
 intro r h g;replace S:=S.call g
 replace k:=g.load k;replace m:=g.load m;replace d:=g.load d;replace j:=g.load j;replace l:=g.load l;clear g
 simp only [BS,LB,Nat.reduceLT,Nat.reduceEqDiff,Int.reduceAdd,N]
 rw [aZ]
 simp only [BS,LB,Nat.reduceLT,Nat.reduceEqDiff,Int.reduceLT,iG]
 by_cases hf:0<=f/\f<(γ.nodes:Int)
 . obtain⟨s,rfl⟩:=Xf hf.1
   have Q:s<γ.nodes:=by omega
   refine step_ret (vu S.ok (c.gr S.gr) k l d Q) ?_
   intro r h g;replace S:=S.call g
   replace k:=g.load k;replace m:=g.load m;replace d:=g.load d;replace j:=g.load j;replace l:=g.load l;clear g
   simp only [BS,LB,Nat.reduceLT,Nat.reduceEqDiff,Int.reduceAdd,O]
   rw [aZ]
   simp only [BS,LB,Nat.reduceLT,Nat.reduceEqDiff,Int.reduceLT,iG]
   by_cases p:0<=t/\t<(γ.nodes:Int)
   . obtain⟨w,rfl⟩:=Xf p.1
     have R:w<γ.nodes:=by omega
     have v: ¬(0<mk/\nd=γ.nodes):=fun v=>I (by simp only [bg,hf,p,v,and_self,not_true_eq_false,if_false,if_true])
     have q:bg γ.nodes nd mk s w=19:=by simp only [bg,hf,p,v,and_self,not_true_eq_false,if_false]
     refine step_ret (vd S.ok (c.gr S.gr) k l j R) ?_
     intro r h g;replace S:=S.call g
     replace k:=g.load k;replace m:=g.load m;replace d:=g.load d;replace j:=g.load j;replace l:=g.load l;clear g
     simp only [BS,LB,Nat.reduceLT,Nat.reduceEqDiff,Int.reduceAdd,P]
     rw [aZ]
     simp only [BS,LB,Nat.reduceLT,Nat.reduceEqDiff,Int.reduceLT,iG]
     refine dV (asked5_no S.ok (c.gr S.gr) (T.gr S.gr) k m v) ?_
     rintro x y G ⟨rfl,u⟩
     replace S:=S.call u
     simp only [BS]
     exact cZ (cq ⟨by rw [q],S.gr⟩)
   . have q:bg γ.nodes nd mk s t=18:=by simp only [bg,hf,p,and_self,not_true_eq_false,not_false_eq_true,if_false,if_true]
     refine dV (asked4_no S.ok (c.gr S.gr) k l j p) ?_
     rintro x y G ⟨rfl,u⟩
     replace S:=S.call u
     simp only [BS]
     exact cZ (cq ⟨by rw [q],S.gr⟩)
 . have q:bg γ.nodes nd mk f t=17:=by simp only [bg,hf,not_false_eq_true,if_true]
   refine dV (asked3_no S.ok (c.gr S.gr) k l d hf) ?_
   rintro x y G ⟨rfl,u⟩
   replace S:=S.call u
   simp only [BS]
   exact cZ (cq ⟨by rw [q],S.gr⟩)
end
theorem np{h0:Hp}(y:h0.t.Sized h0.n){z H nd:Nat}{j:Gra}(v:Good j)(A:bL h0 H (ptrTo z) j){B C:Value}{l:List Int}{R Q:Nat->List Int}(T:TabQ h0 B nd l R Q)(I:l.length<=16)(D:Fl C){f t a:Int}:
 Ret zM 11 [ptrTo z,B,.agg ⟨[C,.int .i64 f,.int .i64 t,.int .i64 a]⟩] h0 fun r h'=>Gr h0 h'/\ ∃c d p q vE,r=.tuple #[ansV c d p q,vE]/\Fl p/\Fl q/\Fl vE/\
  ((bg j.nodes nd l.length f t≠0/\c=bg j.nodes nd l.length f t/\d=0/\p=.slice none 0 0/\q=.slice none 0 0/\vE=.slice none 0 0)\/(bg j.nodes nd l.length f t=0/\(c=0\/c=20)))/\(f=t->bg j.nodes nd l.length f t=0->c=0/\d=0/\p=.slice none 0 0/\q=.slice none 0 0):=by
 by_cases k:bg j.nodes nd l.length f t=0
 . obtain⟨hf,J,E,rfl⟩:=Al k
   obtain⟨s,rfl⟩:=Xf hf.1
   obtain⟨w,rfl⟩:=Xf J.1
   rcases T with⟨m,T,K,L⟩|⟨_,_,rfl⟩
   . refine(zW y v A T K L I E D (s:=s) (w:=w) (by omega) (by omega) (a:=a)).mono ?_
     rintro r h' ⟨g,c,d,p,q,vE,rfl,nV,M⟩
     refine⟨g,c,d,p,q,vE,rfl,?_⟩
     rcases M with⟨_,rfl,rfl,rfl,rfl,rfl⟩|⟨N,τ,_,F,⟨_,rfl,rfl,rfl,rfl⟩|⟨_,rfl,rfl,O,P⟩⟩
     . exact⟨bF,bF,bF,.inr ⟨k,.inl rfl⟩,fun _ _=>⟨rfl,rfl,rfl,rfl⟩⟩
     . exact⟨bF,bF,F.fl,.inr ⟨k,.inr rfl⟩,fun e=>absurd e (by omega)⟩
     . exact⟨O.fl,P.fl,F.fl,.inr ⟨k,.inl rfl⟩,fun e=>absurd e (by omega)⟩
   . exact absurd E (Nat.lt_irrefl 0)
 . have S:=Si y
   have ft:=(T.tabO (by omega)).fl
   refine ae (n:=59) (rs:=[.cell 6 47,.tmp 7]) rfl Tryz.e11 rfl rfl rfl (lbt rfl) ?_
   simp only [BS,Nat.reduceLT]
   refine ah (a8 (by intro x e;cases e)) S ?_;clear S;intro h U S G;simp only [ag]at S
   simp only [BS,F0a]
   refine ah aA S ?_;clear S;intro h V S u
   simp only [BS,LB,Nat.reduceLT,Nat.reduceEqDiff,F0a,Xl,Xg,Xq,S.lds (b:=U) (o:=0) (n:=4) m1 (lbt rfl)]
   refine dV (asked_no S.ok (A.gr S.gr) ((T.gr S.gr).tabO (by omega)) D k) ?_
   rintro x W h4 ⟨rfl,X⟩
   replace S:=S.call X
   simp only [BS]
   refine cZ (vI (eW (v7 S.ok (S.row (b:=V) m0) rfl) fun o W h' ⟨a,e,f,R⟩=>⟨a,_,_,e,cq ?_⟩))
   have Y:Gr h0 h':=(S.fr.trans f (fun i Z=>.inr (by subst Z;exact u)):Mo NoM h0 h').gr
   simp only [if_true]
   refine(eu (by decide) (by simp only [aO,ab,Nat.reduceEqDiff,reduceIte];exact cF Tryz.t47.1 Tryz.t47.2.1 (R.load (o:=0) (n:=4) (lbt rfl)))).2 ?_
   refine(eQ (by decide)).2 (eJ.2 ?_)
   exact⟨Y,_,_,_,_,_,rfl,bF,bF,bF,.inl ⟨k,rfl,rfl,rfl,rfl,rfl⟩,fun _ h=>absurd h k⟩
theorem tg {h0:Hp} (w:h0.t.Sized h0.n) {N nd mk:Nat} {m p q r:Value} (y:Fl m) (z:Fl p) (A:Fl q) (B:Fl r) {f t a:Int}:
 bI zM 13 [.agg ⟨[.int .i64 N,m,p,q]⟩,.int .i64 (mk:Nat),.int .i64 (nd:Nat),.agg ⟨[r,.int .i64 f,.int .i64 t,.int .i64 a]⟩] h0 (.int .i64 (bg N nd mk f t)):=by
 have S:=Si w
 refine ae (n:=37) (rs:=[.tmp 8]) rfl Tryz.e13 rfl rfl rfl (lbt rfl) ?_
 simp only [BS,Nat.reduceLT]
 refine ah (a8 (by intro x e;cases e)) S ?_;clear S;intro h g S s;simp only [ag]at S
 simp only [BS,Nat.reduceLT,Nat.reduceEqDiff,if_false]
 refine ah (a8 (by intro x e;cases e)) S ?_;clear S;intro h c S u;simp only [ag]at S
 by_cases d:f<0
 . rw [show bg N nd mk f t=17 by simp only [bg,show¬(0<=f/\f<(N:Int)) by omega,not_false_eq_true,if_true]]
   simp only [BS,LB,ac,Nat.reduceLT,Nat.reduceEqDiff,Fq,d,S.ld (b:=c) (o:=1) m0 rfl]
   exact S.gr
 . by_cases i:(N:Int)<=f
   . rw [show bg N nd mk f t=17 by simp only [bg,show¬(0<=f/\f<(N:Int)) by omega,not_false_eq_true,if_true]]
     simp only [BS,LB,ac,Nat.reduceLT,Nat.reduceEqDiff,Fq,d,i,S.ld (b:=c) (o:=1) m0 rfl,S.ld (b:=g) (o:=0) m1 rfl]
     exact S.gr
   . have hf :0<=f/\f<(N:Int):=by omega
     by_cases j:t<0
     . rw [show bg N nd mk f t=18 by simp only [bg,hf,and_self,not_true_eq_false,show¬(0<=t/\t<(N:Int)) by omega,not_false_eq_true,if_true,if_false]]
       simp only [BS,LB,ac,Nat.reduceLT,Nat.reduceEqDiff,Fq,d,i,j,S.ld (b:=c) (o:=1) m0 rfl,S.ld (b:=c) (o:=2) m0 rfl,S.ld (b:=g) (o:=0) m1 rfl]
       exact S.gr
     . by_cases t1:(N:Int)<=t
       . rw [show bg N nd mk f t=18 by simp only [bg,hf,and_self,not_true_eq_false,show¬(0<=t/\t<(N:Int)) by omega,not_false_eq_true,if_true,if_false]]
         simp only [BS,LB,ac,Nat.reduceLT,Nat.reduceEqDiff,Fq,d,i,j,t1,S.ld (b:=c) (o:=1) m0 rfl,S.ld (b:=c) (o:=2) m0 rfl,S.ld (b:=g) (o:=0) m1 rfl]
         exact S.gr
       . have k:0<=t/\t<(N:Int):=by omega
         by_cases l:(mk:Int)=0
         . rw [show bg N nd mk f t=19 by simp only [bg,hf,k,and_self,not_true_eq_false,show¬(0<mk/\nd=N) by omega,if_false]]
           simp only [BS,LB,ac,Nat.reduceLT,Nat.reduceEqDiff,Fq,d,i,j,t1,l,S.ld (b:=c) (o:=1) m0 rfl,S.ld (b:=c) (o:=2) m0 rfl,S.ld (b:=g) (o:=0) m1 rfl]
           exact S.gr
         . by_cases v:(nd:Int)=(N:Int)
           . rw [show bg N nd mk f t=0 by simp only [bg,hf,k,and_self,not_true_eq_false,show(0<mk/\nd=N) by omega,if_false,if_true]]
             simp only [BS,LB,ac,Nat.reduceLT,Nat.reduceEqDiff,Fq,d,i,j,t1,l,v,S.ld (b:=c) (o:=1) m0 rfl,S.ld (b:=c) (o:=2) m0 rfl,S.ld (b:=g) (o:=0) m1 rfl]
             exact S.gr
           . rw [show bg N nd mk f t=19 by simp only [bg,hf,k,and_self,not_true_eq_false,show¬(0<mk/\nd=N) by omega,if_false]]
             simp only [BS,LB,ac,Nat.reduceLT,Nat.reduceEqDiff,Fq,d,i,j,t1,l,v,S.ld (b:=c) (o:=1) m0 rfl,S.ld (b:=c) (o:=2) m0 rfl,S.ld (b:=g) (o:=0) m1 rfl]
             exact S.gr
end Go.Ab

end
section
namespace Go.Ab
theorem St.growB{M:Nat->Prop}{h0 h:Hp}{L:List (Nat×Ob)}{G:List GL}(S:St M h0 h L G){E:Env}{t w e:TypeId}{f k m len b md:Nat}{y vs new:List Value}{x:Value}(B:Row h b vs md)(a:len*k=vs.length)(C:E.und t=some (.slice e))(D:er E e f k y)(F:0<f)
 (q:dw E w=some false) (g:aP h k x=some (m,new)) (z:m*k=new.length) (H:0<m) (A:0<k) (r:(vs.length+new.length)*(f+1)<=70368744177664) {ts:List TypeId}:
 ∃h' v',cM E h (t::w::ts) (.slice (some ⟨b,0,none⟩) len len) x=some (h',v')/\St M h0 h' L ((v',k,vs++new)::G):=by
 obtain⟨⟨i,I,rfl,rfl⟩,J,K⟩:=D
 obtain⟨p,el,j,d,s⟩:=B
 have l:Nat.ble (len+m) len=false:=by
  cases q:Nat.ble (len+m) len with
  |false=>rfl
  |true=>exact absurd (lbt q) (by omega)
 have o:len+m<=vs.length+new.length:=by
  rw [<-a,<-z]
  have H:=XV len A
  have N:=XV m A
  omega
 have c:(Nat.ble ((len+m)*(i.bytes+1)) 70368744177664&&Nat.blt 0 i.bytes)=true:=by
  rw [Xw (Xh (Nat.mul_le_mul_right _ o) r)]
  simp only [XL]
  rw [Nat.blt_eq];exact F
 have u:Nat.beq y.length i.size=true:=by rw [K];exact Nat.beq_refl _
 have v:iU p vs.length 0 (len*i.size) new=some (p.pushAll vs.length new,vs.length+new.length):=by
  unfold iU
  rw [a,Nat.beq_refl vs.length]
  rfl
 refine⟨h.new (.cells (p.pushAll vs.length new) (vs.length+new.length) e 1),.slice (some ⟨h.n,0,some i.size⟩) (len+m) (len+m),?_,S.newG (n:=len+m) ?_ ?_⟩
 . unfold cM
   simp only [q]
   unfold iY
   simp only [C,I,g]
   unfold eB
   rw [l]
   simp only [cond_false]
   rw [c,J]
   simp only [cond_true,u]
   unfold lV
   simp only [j,v]
 . rw [Nat.add_mul,a,z,XK]
 . refine⟨p.pushAll vs.length new,e,?_,?_,fun n=>?_⟩
   . rw [Hp.get_new _ _ S.ok,if_pos rfl,XK]
   . rw [XK];exact Tr.sized_pushAll _ d
   . rw [Tr.get_pushAll _ _ _ d,List.getElem?_append]
     split
     . exact s n
     . rfl
end Go.Ab

end
section
namespace Go.Ab
end Go.Ab

end
section
namespace Go.Ab
open Go.Proofs
set_option maxRecDepth 10000
def Tryz.Fa:=aj t1<|aj t2<|aj t3<|aj t4<|aj t5<|aj t6<|aj Z3<|aj Z5<|aj t9<|aj t10<|aj t11<|aj t12<|aj Z15<|aj Z18<|aj t15<|aj t16<|aj t17<|aj Z21<|aj t22<|aj t23<|aj t24<|aj t26<|aj r26<|aj t29<|aj Z0<|aj t32<|aj t33<|aj t36<|aj t38<|aj r38<|aj t41<|aj Z2<|aj t181<|aj t189<|aj Z1<|aj t271<|aj t358<|aj Z19<|aj t372<|aj t374<|aj t376<|aj t377<|aj t378<|aj t379<|Z14
theorem slice1{E:Env}{t e:TypeId}(c:E.und t=some (.slice e))(d:E.sz e=some 1){b n:Nat}(g:1<n):dS E t (.slice (some ⟨b,0,some 1⟩) n n) (some (.int .i64 1)) none none=some (.slice (some ⟨b,1,some 1⟩) (n-1) (n-1)):=by
 have a:fG 1=some 1:=rfl
 have f:Nat.beq n 1=false:=by
  cases n with
  |zero=>omega
  | succ n=>cases n with
    |zero=>omega
    |succ n=>rfl
 simp only [dS,c,dZ,d6,a,d,Option.isSome_none,cond_false,Xw (show 1<=n by omega),Xw (XX n),Xw (show(1:Nat)<=n by omega),cond_true,f]
 rfl
theorem sl_drop1{E:Env}{t e:TypeId}(i:E.und t=some (.slice e))(j:E.sz e=some 1){h:Hp}{v:Value}{l:List Int}(g:eX h (v,1,ints l))(k:1<l.length): ∃d,dS E t v (some (.int .i64 1)) none none=some d/\az h 1 (encI .i64) d (l.drop 1)/\ ∀c,ar d c->ar v c:=by
 rcases g with⟨_,a⟩|⟨b,n,f,a,e3⟩
 . simp only []at a
   have p:l.length=0:=by have:=congrArg List.length a;rwa [dr]at this
   omega
 . simp only []at f a e3
   subst f
   rw [dr,Xt]at a
   subst a
   refine⟨_,slice1 i j k,.inr ⟨b,1,some 1,l.length-1,by rw [Xe],by rw [Xe];omega,?_⟩,fun c m=>m⟩
   rw [e3.load (by rw [dr,Xe];omega),Xe]
   have o:(ints l).drop 1=ints (l.drop 1):=by rw [sD,sD,List.map_drop]
   rw [o,XW (by rw [dr,Xe];omega)]
   rfl
theorem gw.drop1{N:Nat}{l:List Int}(h:gw N l):gw N (l.drop 1):=by
 refine⟨by rw [Xe];have:=h.1;omega,fun i b=>?_⟩
 rw [Xe]at b
 have e:(l.drop 1).getD i 0=l.getD (i+1) 0:=by
  rw [zN,zN,List.getElem?_drop,Nat.add_comm]
 have:=h.2 (i+1) (by omega)
 rw [e]
 refine⟨this.1,this.2.1,fun a=>this.2.2 ?_⟩
 rw [List.take_drop]at a
 have:=List.mem_of_mem_drop a
 rwa [Nat.add_comm 1 i]at this
theorem made20_ok {h0:Hp} (ok:h0.t.Sized h0.n) {vB vM vN:Value} {xf xt xa:Int} {B M:List Int} (hB:SlW h0 .u8 vB B) (Y:SlW h0 .u8 vM M) (bf: ∀x∈M,0<=x/\x<=255) (fN:Fl vN):
 Ret zM 8 [.agg ⟨[vB,vM,.int .u8 xf,.int .u8 xt,.int .i8 xa,vN]⟩] h0 fun r h'=>Gr h0 h'/\ ∃t O P Q X nb A l,r=.tuple #[iO t O P Q,ptrTo X,A]/\Good t/\c8 h' O P Q t/\bL h' nb (ptrTo X) t/\az h' 1 (encI .i64) A l/\gw t.nodes l/\1<=l.length/\l.length<=7/\t.nodes=1+drV (B.take (min B.length 80)) 12 0/\h0.n<=nb/\ ∀c,ar A c->h0.n<=c:=by
 have S:=Si ok
 have fB:=hB.sl.fl
 have fM:=Y.sl.fl
 have mn:min (B.length:Int) 80=((min B.length 80:Nat):Int):=by omega
 obtain⟨a2,bh,sB,bB⟩:=hB.low (kd':=.i64) (n:=min B.length 80) Tryz.t22.1 Tryz.t5.2.2.1 (Nat.min_le_left _ _)
 have bi:=sB.fl
 refine ae (n:=90) (rs:=[.cell 2 31,.tmp 3,.tmp 4]) rfl Tryz.e8 rfl rfl rfl (lbt rfl) ?_
 simp only [BS,Nat.reduceLT]
 refine ah (a8 (by intro x e;cases e)) S ?_;clear S;intro h z S bv;simp only [ag]at S
 simp only [BS,Fa]
 refine ah aA S ?_;clear S;intro h C S bx
 simp only [BS,LB,Nat.reduceLT,Nat.reduceEqDiff,Nat.reduceAdd,Xm,Xn,Fa,hB.sl.lenq,mn,bh,bi,S.ld (b:=z) (o:=0) m1 rfl]
 refine ah (a8 (by intro x e;cases e)) S ?_;clear S;intro h bd S a3;simp only [ag]at S
 have bk:az h 1 (encI .u8) a2 (B.take (min B.length 80)):=sB.gr S.gr
 have nB: ¬ar a2 bd:=fun a=>by have:=sB.lt ok a;omega
 have bl:(B.take (min B.length 80)).length<1000000:=by rw [XD];omega
 simp only [BS,LB,Nat.reduceLT,Nat.reduceEqDiff]
 have k0:=S.fr.n
 have ap:=S.apart
 simp only [keys,XB,XT,XG,List.append_nil,List.nodup_cons,Xo,Xi,or_false,not_or]at ap
 have b0:=(S.row (b:=C) m1).lt S.ok
 have b3:=(S.row (b:=z) m2).lt S.ok
 refine step_ret (raw0_ok S.ok (S.row m0) ⟨bk,nB,bl,by omega⟩) ?_
 rintro v h ⟨f,t,O,P,Q,rfl,K,eN,ga,hz⟩
 have gz: ∀c,(ar O c\/ar P c\/ar Q c)->c≠z/\c≠C/\c<h.n:=fun c a=>⟨by have:=hz c a;omega,by have:=hz c a;omega,a.elim (ga.X.blt f.ok) (fun h=>h.elim (ga.Y.blt f.ok) (ga.A.blt f.ok))⟩
 replace S:=S.drop1.step f (fun c a=>by subst a;exact .inr a3) (fun c a e=>by simp [keys]at a;omega)
 have fx:=ga.X.fl
 have fy:=ga.Y.fl
 have fa:=ga.A.fl
 have n1:=K.n1
 have n2:=K.n2
 have gS:=S.gr
 have S0:=S
 replace S:=S.base
 simp only [BS,Fa,iO]
 refine ah aA S ?_;clear S;intro h H S bH
 simp only [BS,LB,Nat.reduceLT,Nat.reduceEqDiff]
 refine aC (S.store (i:=0) rfl Tryz.t31.2.1 (by intro x e;cases e) rfl (by simp only [ag,Xs,Xv,fx.2.1,fy.2.1,fa.2.1,Xc];rfl) (lbt rfl) ono) ?_
 clear S;rintro h ⟨S,mo⟩
 simp only [LC,ag,lay,Xj,Xk,Nat.reduceAdd]at S
 have L:=ga.mo S.fr (fun c a I=>by have:=hz c a;simp [keys]at I;omega)
 simp only [BS,LB,Nat.reduceLT,Nat.reduceEqDiff,Fa,Xl,Xg,Xq,S.lds (b:=H) (o:=0) (n:=4) m0 (lbt rfl)]
 have q6:=(S.row (b:=H) m0).lt S.ok
 have q2:=(S.row (b:=C) m1).lt S.ok
 have q1:=(S.row (b:=z) m2).lt S.ok
 have kN:h0.n<=h.n:=by have:=gS.n;have:=S.fr.n;omega
 refine step_ret (uT S.ok K L) ?_
 rintro v h ⟨p,rfl,g,hp⟩
 replace S:=S.call g
 replace L:=L.gr g
 clear g
 obtain⟨X,rfl⟩: ∃b,p=ptrTo b:=by obtain⟨b,_,_,_,_,_,e,_⟩:=hp.ex;exact⟨b,e⟩
 replace S:=S0.rebase S
 have T:=S.gr
 have b4:=S.ok
 clear S0
 replace S:=S.base
 simp only [LC,keys,XB,XT,XG]at S
 rename Hp=>hC0
 simp only [BS,LB,Nat.reduceLT,Nat.reduceEqDiff,Fa]
 refine ah (cB (by exact Tryz.t33.1) (by exact Xz) (by decide) (by rfl)) S ?_;clear S;intro h R S bP;simp only [LC,bq,bV,ag,Nat.reduceMul,Nat.reduceAdd,Xy,Xr,Xt,XA]at S
 simp only [BS,LB,Nat.reduceLT,Nat.reduceEqDiff,Fa,S.ld (b:=H) (o:=0) m1 rfl]
 refine ah (po (by exact Tryz.t33.1) (by exact Xz) (by omega) (by omega)) S ?_;clear S;intro h bs S bX
 rw [XO,pF,show List.replicate t.nodes (Value.int .i64 0)=(Xa t.nodes).map fun v=>Value.int .i64 (((fun _=>0:Nat->Nat) v:Nat):Int)from by rw [List.map_const',XQ];rfl]at S
 have i0:ff (.int .i64 0) t.nodes=some 0:=hZ (i:=0) (by omega)
 have a4:=S.ld (b:=bs) (o:=0) m0 (kc (F:=fun v=>Value.int .i64 (((fun _=>0:Nat->Nat) v:Nat):Int)) (show 0<t.nodes by omega))
 have w0:aq .i64 ((((fun _=>0:Nat->Nat) 0:Nat):Int)+1)=((1:Nat):Int):=rfl
 simp only [BS,LB,Nat.reduceLT,Nat.reduceEqDiff,Int.reduceAdd,Xb,Fa,XO,i0,a4]
 refine aC (aI S (i:=0) rfl Tryz.t3.2.2.1 bM (by simp;omega) ono) ?_
 clear S a4;rintro h ⟨S,_⟩
 simp only [LC]at S
 have bm: ∀c,ar vM c->c<h0.n:=fun c a=>Y.sl.lt ok a
 have nb: ∀c,c<h0.n-> ¬c∈[H,C,z]:=fun c a I=>by
  simp only [Xo,Xi,or_false]at I
  have:=gS.n
  omega
 have U: ∀c,c∈[H,C,z]->h0.n<=c:=fun c I=>by
  simp only [Xo,Xi,or_false]at I
  have:=gS.n
  omega
 have ai: ∀c,(ar O c\/ar P c\/ar Q c)-> ¬c∈[H,C,z]:=fun c a I=>by
  have:=gz c a
  simp only [Xo,Xi,or_false]at I
  omega
 have a5:((Xa t.nodes).map fun v=>Value.int .i64 ((0:Nat):Int)).set 0 (.int .i64 (aq .i64 1))=(Xa t.nodes).map fun u=>Value.int .i64 (((if u=0 then 1 else 0:Nat):Nat):Int):=by
  have:=kZ (N:=t.nodes) (k:=0) (F:=fun v=>Value.int .i64 ((0:Nat):Int)) (F':=fun u=>Value.int .i64 (((if u=0 then 1 else 0:Nat):Nat):Int)) (fun u _ hu=>by simp [hu])
  rw [<-this];rfl
 rw [a5]at S
 simp only [BS]
 refine sJ (fun D h'=> ∃(A:Value) (l:List Int) (cs:List Value) (G:List GL),St (· ∈[H,C,z]) hC0 h' [(bs,.row cs 1),(R,.row [.int .i64 0] 1),(H,.row [.int .i64 t.nodes,O,P,Q] 1),(C,.row [.int .i64 0,.slice none 0 0,.slice none 0 0,.slice none 0 0] 1),(z,.row [vB,vM,.int .u8 xf,.int .u8 xt,.int .i8 xa,vN] 1)] G/\((G=[]/\A=.slice (some ⟨R,0,none⟩) 1 1/\l=[0])\/G=[(A,1,ints l)])/\gw t.nodes l/\1<=l.length/\l.length<=7/\D 1=ptrTo z/\D 2=ptrTo C/\D 6=ptrTo H/\D 7=ptrTo X/\D 9=A)
  (fun(i:Nat) D h'=>i<=M.length/\i<=6/\ ∃(A:Value) (l:List Int) (s:Nat->Nat) (G:List GL),St (· ∈[H,C,z]) hC0 h' [(bs,.row ((Xa t.nodes).map fun v=>.int .i64 ((s v:Nat):Int)) 1),(R,.row [.int .i64 0] 1),(H,.row [.int .i64 t.nodes,O,P,Q] 1),(C,.row [.int .i64 0,.slice none 0 0,.slice none 0 0,.slice none 0 0] 1),(z,.row [vB,vM,.int .u8 xf,.int .u8 xt,.int .i8 xa,vN] 1)] G/\((G=[]/\A=.slice (some ⟨R,0,none⟩) 1 1/\l=[0])\/G=[(A,1,ints l)])/\gw t.nodes l/\1<=l.length/\l.length<=i+1/\(∀v,v<t.nodes->s v<=i+1/\(s v=0↔(v:Int)∉l))/\
    D 1=ptrTo z/\D 2=ptrTo C/\D 6=ptrTo H/\D 7=ptrTo X/\D 9=A/\D 10=.slice (some ⟨bs,0,none⟩) t.nodes t.nodes/\D 11=.int .i64 i) (fun i=>M.length-i) ?_ ?_ 0 ?_
 . clear S
   intro i ih D h' ⟨hi,hi6,A,l,s,G,S,hG,hl,hl1,hli,a,r1,r2,r6,r7,r9,r10,r11⟩
   have a6:=(Y.sl.gr T).mo S.fr (fun c a=>nb c (bm c a))
   have ak: ∀(n:Nat) (d:List Deferred) (rc:Option (Value×Bool)) (J:Nat->Value),J 1=ptrTo z->J 2=ptrTo C->J 6=ptrTo H->J 7=ptrTo X->J 9=A->JP n d rc (fun D h'=> ∃(A:Value) (l:List Int) (cs:List Value) (G:List GL),St (· ∈[H,C,z]) hC0 h' [(bs,.row cs 1),(R,.row [.int .i64 0] 1),(H,.row [.int .i64 t.nodes,O,P,Q] 1),(C,.row [.int .i64 0,.slice none 0 0,.slice none 0 0,.slice none 0 0] 1),(z,.row [vB,vM,.int .u8 xf,.int .u8 xt,.int .i8 xa,vN] 1)] G/\((G=[]/\A=.slice (some ⟨R,0,none⟩) 1 1/\l=[0])\/G=[(A,1,ints l)])/\gw t.nodes l/\1<=l.length/\l.length<=7/\D 1=ptrTo z/\D 2=ptrTo C/\D 6=ptrTo H/\D 7=ptrTo X/\D 9=A) .normal (LL n J d rc) h':=fun n d rc J e1 e2 e6 e7 e9=>kp ⟨A,l,_,G,S,hG,hl,hl1,by omega,e1,e2,e6,e7,e9⟩
   by_cases hlt:i<M.length
   . by_cases h6:i<6
     . have c6:(i:Int)<6:=by omega
       obtain⟨c,o,a7,ba⟩:=a6.ix (kd:=.i64) (eR .u8) hlt
       have hx:=bf _ (XU hlt)
       obtain⟨x,ex⟩: ∃x:Nat,M[i]=x:=⟨M[i].toNat,by omega⟩
       rw [ex]at ba hx
       have wc:aq .i64 (x:Int)=(x:Int):=by rw [wrap64]<;>omega
       have nz:(t.nodes:Int)≠0:=by omega
       have tm:(x:Int).tmod (t.nodes:Int)=((x%t.nodes:Nat):Int):=by rw [XM (by omega)];exact(Int.natCast_emod _ _).symm
       have y:x%t.nodes<t.nodes:=Nat.mod_lt _ (by omega)
       have w:aq .i64 ((i:Int)+1)=((i+1:Nat):Int):=by rw [wrap64]<;>omega
       simp only [BS,LB,Nat.reduceLT,Nat.reduceEqDiff,Fa,r1,r11,Y.sl.lenq,aW,hlt,c6,S.ld (b:=z) (o:=1) m4 rfl]
       refine aE (aJ rfl) (q:=0) (ps:=[]) (by kernel_rfl) ?_
       simp only [BS,LB,iP,cd,iI,cls,Nat.reduceLT,Nat.reduceEqDiff,Nat.reduceAdd,Nat.reducePow,Nat.reduceDiv,Nat.reduceMod,Nat.reduceLeDiff,Fa,r1,r6,r10,r11,a7,ba,encI,wc,mO nz,tm,S.ld (b:=H) (o:=0) m2 rfl,S.ld (b:=z) (o:=1) m4 rfl]
       generalize x%t.nodes=v at y
       obtain⟨b5,bb⟩:=a v y
       have lc:=S.ld (b:=bs) (o:=v) m0 (kc (F:=fun v=>Value.int .i64 ((s v:Nat):Int)) y)
       have w2:aq .i64 ((s v:Int)+1)=((s v+1:Nat):Int):=by rw [wrap64]<;>omega
       have af:((Xa t.nodes).map fun v=>Value.int .i64 ((s v:Nat):Int)).set v (.int .i64 ((s v+1:Nat):Int))=(Xa t.nodes).map fun u=>Value.int .i64 (((if u=v then s v+1 else s u:Nat):Nat):Int):=by
        have:=kZ (N:=t.nodes) (k:=v) (F:=fun v=>Value.int .i64 ((s v:Nat):Int)) (F':=fun u=>Value.int .i64 (((if u=v then s v+1 else s u:Nat):Nat):Int)) (fun u _ hu=>by simp [hu])
        rw [<-this];simp
       clear a6 ak
       by_cases hz:s v=0
       . have al:((s v:Nat):Int)=0:=by omega
         simp only [BS,LB,Nat.reduceLT,Nat.reduceEqDiff,Fa,r9,y,lc,al]
         refine ah (cB (by exact Tryz.t33.1) (by exact Xz) (by decide) (by rfl)) S ?_;clear S;intro h bu S bY;simp only [LC,bq,bV,ag,Nat.reduceMul,Nat.reduceAdd,Xy,Xr,Xt,XA]at S
         simp only [BS,LB,Nat.reduceLT,Nat.reduceEqDiff]
         have ax:aP h 1 (.slice (some ⟨bu,0,none⟩) 1 1)=some (1,ints [(v:Int)]):=by simp only [aP];rw [S.lds (b:=bu) (o:=0) (n:=1*1) m0 (lbt rfl)];rfl
         replace S:=S.drop1
         have bc: ∃h' v',cM zM h [33,33] A (.slice (some ⟨bu,0,none⟩) 1 1)=some (h',v')/\St (· ∈[H,C,z]) hC0 h' [(bs,.row ((Xa t.nodes).map fun v=>.int .i64 ((s v:Nat):Int)) 1),(R,.row [.int .i64 0] 1),(H,.row [.int .i64 t.nodes,O,P,Q] 1),(C,.row [.int .i64 0,.slice none 0 0,.slice none 0 0,.slice none 0 0] 1),(z,.row [vB,vM,.int .u8 xf,.int .u8 xt,.int .i8 xa,vN] 1)] [(v',1,ints (l++[(v:Int)]))]:=by
          rcases hG with⟨rfl,rfl,rfl⟩|rfl
          . rw [oe]
            exact St.growB S (b:=R) (len:=1) (m:=1) (new:=ints [(v:Int)]) (S.row m1) rfl Tryz.t33.1 Xz (by decide) Tryz.t33.2.2.2.2.2 ax rfl (by decide) (by decide) (by rw [dr];exact lbt rfl)
          . rw [oe]
            exact S.grow (j:=0) (m:=1) (new:=ints [(v:Int)]) rfl Tryz.t33.1 Xz (by decide) Tryz.t33.2.2.2.2.2 ax rfl (by decide) rfl (by rw [dr,dr];simp;omega)
         refine gf bc ?_
         clear S ax hG bc;rintro h b7 S
         have lc:=S.ld (b:=bs) (o:=v) m0 (kc (F:=fun v=>Value.int .i64 ((s v:Nat):Int)) y)
         simp only [BS,LB,Nat.reduceLT,Nat.reduceEqDiff,Fa,r10,y,lc,w2]
         refine aC (aI S (i:=0) rfl Tryz.t3.2.2.1 bM (by simpa using y) ono) ?_
         clear S lc;rintro h ⟨S,_⟩
         simp only [LC]at S
         rw [af]at S
         simp only [BS,LB,Nat.reduceLT,Nat.reduceEqDiff,r11,w]
         refine ih (i+1) _ _ (by omega) ⟨by omega,by omega,_,l++[(v:Int)],fun u=>if u=v then s v+1 else s u,_,S,.inr rfl,hl.push (by omega) (by omega) (by omega) (bb.1 hz),by simp,by simp;omega,fun u hu=>?_,by simp [aa,r1,ab],by simp [aa,r2,ab],by simp [aa,r6,ab],by simp [aa,r7,ab],by simp [aa],by simp [aa,r10],by simp [aa]⟩
         have:=a u hu
         by_cases e:u=v
         . subst e;simp;omega
         . have e': ¬((u:Int)=(v:Int)):=by omega
           simp only [e,if_false,List.mem_append,List.mem_singleton,e',or_false]
           exact⟨by omega,this.2⟩
       . have al: ¬((s v:Nat):Int)=0:=by omega
         simp only [BS,LB,Nat.reduceLT,Nat.reduceEqDiff,Fa,r10,y,lc,al,w2]
         refine aC (aI S (i:=0) rfl Tryz.t3.2.2.1 bM (by simpa using y) ono) ?_
         clear S lc;rintro h ⟨S,_⟩
         simp only [LC]at S
         rw [af]at S
         simp only [BS,LB,Nat.reduceLT,Nat.reduceEqDiff,r11,w]
         refine ih (i+1) _ _ (by omega) ⟨by omega,by omega,_,l,fun u=>if u=v then s v+1 else s u,G,S,hG,hl,hl1,by omega,fun u hu=>?_,by simp [aa,r1,ab],by simp [aa,r2,ab],by simp [aa,r6,ab],by simp [aa,r7,ab],by simp [aa,r9],by simp [aa,r10],by simp [aa]⟩
         have:=a u hu
         by_cases e:u=v
         . subst e
           simp only [if_true]
           exact⟨by omega,by constructor<;>intro h<;>first|omega|exact absurd (this.2.2 h) hz⟩
         . simp only [e,if_false];exact⟨by omega,this.2⟩
     . have c6: ¬(i:Int)<6:=by omega
       simp only [BS,LB,Nat.reduceLT,Nat.reduceEqDiff,Fa,r1,r11,Y.sl.lenq,aW,hlt,c6,S.ld (b:=z) (o:=1) m4 rfl]
       exact ak _ _ _ _ (by simp [aa,r1,ab]) (by simp [aa,r2,ab]) (by simp [aa,r6,ab]) (by simp [aa,r7,ab]) (by simp [aa,r9])
   . simp only [BS,LB,Nat.reduceLT,Nat.reduceEqDiff,Fa,r1,r11,Y.sl.lenq,aW,hlt,S.ld (b:=z) (o:=1) m4 rfl]
     exact ak _ _ _ _ (by simp [aa,r1,ab]) (by simp [aa,r2,ab]) (by simp [aa,r6,ab]) (by simp [aa,r7,ab]) (by simp [aa,r9])
 . clear S
   intro D h' ⟨A,l,cs,G,S,hG,hl,hl1,hl7,r1,r2,r6,r7,r9⟩
   have sR:az h' 1 (encI .i64) A l:=by
    rcases hG with⟨_,rfl,rfl⟩|rfl
    . exact .inr ⟨R,0,none,1,rfl,XX _,S.lds (b:=R) (o:=0) (n:=1*1) m1 (lbt rfl)⟩
    . exact(S.gown _ m0).1.sl rfl (fun _=>rfl) (by decide)
   have ay: ∀c,ar A c->c≠C:=fun c a=>by
    rcases hG with⟨_,rfl,rfl⟩|rfl
    . have e:c=R:=a.symm
      have ap:=S.apart
      simp [keys]at ap
      intro h
      omega
    . intro e
      exact(S.gblk m0 a).2 (by rw [e];simp)
   have aL: ∀c,ar A c->h0.n<=c:=fun c a=>by
    have k:=T.n
    rcases hG with⟨_,rfl,rfl⟩|rfl
    . have e:c=R:=a.symm
      subst e
      rcases S.key_own (b:=c) (by simp [keys])with x|x
      . omega
      . exact U _ x
    . rcases(S.gblk m0 a).1 with x|x
      . omega
      . exact U _ x
   have a0:((M.length:Nat):Int).tmod 2=((M.length%2:Nat):Int):=by rw [XM (by omega)];exact(Int.natCast_emod _ _).symm
   have Z:=S.lds (b:=H) (o:=0) (n:=4) m2 (lbt rfl)
   simp only [Xk,Xj]at Z
   by_cases h2:M.length%2=1
   . have ad:((M.length%2:Nat):Int)=1:=by omega
     by_cases a1:1<l.length
     . have V:(1:Int)<(l.length:Int):=by omega
       have bo:G=[(A,1,ints l)]:=hG.resolve_left (fun⟨_,_,e⟩=>by rw [e]at a1;simp at a1)
       subst bo
       obtain⟨v2,br,s2,be⟩:=sl_drop1 (E:=zM) Tryz.t33.1 Tryz.t3.2.2.1 (S.gown _ m0).1 a1
       simp only [BS,LB,Nat.reduceLT,Nat.reduceEqDiff,Xm,Xn,Fa,r1,r2,r6,r7,r9,Y.sl.lenq,mO (show(2:Int)≠0 by decide),a0,ad,sR.lenq,V,br,Z,S.ld (b:=z) (o:=1) m4 rfl]
       refine aC (S.store (i:=3) rfl Tryz.t31.2.1 (by intro x e;cases e) rfl (by simp only [ag,Xs,Xv,fx.2.1,fy.2.1,fa.2.1,Xc];rfl) (lbt rfl) ono) ?_
       clear S;rintro h3 ⟨S,W⟩
       simp only [LC,ag,lay,Xj,Xk,Nat.reduceAdd]at S
       simp only [BS,LB,ac,Nat.reduceLT,Nat.reduceEqDiff]
       refine(eu (by decide) (by simp only [aO,r2,ab,Nat.reduceEqDiff,reduceIte];exact cF Tryz.t31.1 Tryz.t31.2.1 (S.lds (b:=C) (o:=0) (n:=4) m3 (lbt rfl)))).2 ?_
       refine(eQ (by decide)).2 ((eQ (by decide)).2 (eJ.2 ?_))
       have gZ:Gr h0 h3:=(T.fr.trans S.fr (fun c a=>.inr (U c a)):Mo NoM h0 h3).gr
       exact⟨gZ,t,O,P,Q,X,_,_,_,rfl,K,L.mo S.fr (fun c a I=>ai c a I),hp.mo S.fr (fun c I=>by simp only [Xo,Xi,or_false]at I;omega),s2.mo W (fun c a e=>ay c (be c a) e),hl.drop1,by rw [Xe];omega,by rw [Xe];omega,eN,kN,fun c a=>aL c (be c a)⟩
     . have V: ¬(1:Int)<(l.length:Int):=by omega
       simp only [BS,LB,Nat.reduceLT,Nat.reduceEqDiff,Fa,r1,r2,r6,r7,r9,Y.sl.lenq,mO (show(2:Int)≠0 by decide),a0,ad,sR.lenq,V,Z,S.ld (b:=z) (o:=1) m4 rfl]
       refine aC (S.store (i:=3) rfl Tryz.t31.2.1 (by intro x e;cases e) rfl (by simp only [ag,Xs,Xv,fx.2.1,fy.2.1,fa.2.1,Xc];rfl) (lbt rfl) ono) ?_
       clear S;rintro h3 ⟨S,W⟩
       simp only [LC,ag,lay,Xj,Xk,Nat.reduceAdd]at S
       simp only [BS,LB,ac,Nat.reduceLT,Nat.reduceEqDiff]
       refine(eu (by decide) (by simp only [aO,r2,ab,Nat.reduceEqDiff,reduceIte];exact cF Tryz.t31.1 Tryz.t31.2.1 (S.lds (b:=C) (o:=0) (n:=4) m3 (lbt rfl)))).2 ?_
       refine(eQ (by decide)).2 ((eQ (by decide)).2 (eJ.2 ?_))
       have gZ:Gr h0 h3:=(T.fr.trans S.fr (fun c a=>.inr (U c a)):Mo NoM h0 h3).gr
       exact⟨gZ,t,O,P,Q,X,_,_,_,rfl,K,L.mo S.fr (fun c a I=>ai c a I),hp.mo S.fr (fun c I=>by simp only [Xo,Xi,or_false]at I;omega),sR.mo W (fun c a e=>ay c a e),hl,hl1,hl7,eN,kN,aL⟩
   . have ad: ¬((M.length%2:Nat):Int)=1:=by omega
     . simp only [BS,LB,Nat.reduceLT,Nat.reduceEqDiff,Fa,r1,r2,r6,r7,r9,Y.sl.lenq,mO (show(2:Int)≠0 by decide),a0,ad,Z,S.ld (b:=z) (o:=1) m4 rfl]
       refine aC (S.store (i:=3) rfl Tryz.t31.2.1 (by intro x e;cases e) rfl (by simp only [ag,Xs,Xv,fx.2.1,fy.2.1,fa.2.1,Xc];rfl) (lbt rfl) ono) ?_
       clear S;rintro h3 ⟨S,W⟩
       simp only [LC,ag,lay,Xj,Xk,Nat.reduceAdd]at S
       simp only [BS,LB,ac,Nat.reduceLT,Nat.reduceEqDiff]
       refine(eu (by decide) (by simp only [aO,r2,ab,Nat.reduceEqDiff,reduceIte];exact cF Tryz.t31.1 Tryz.t31.2.1 (S.lds (b:=C) (o:=0) (n:=4) m3 (lbt rfl)))).2 ?_
       refine(eQ (by decide)).2 ((eQ (by decide)).2 (eJ.2 ?_))
       have gZ:Gr h0 h3:=(T.fr.trans S.fr (fun c a=>.inr (U c a)):Mo NoM h0 h3).gr
       exact⟨gZ,t,O,P,Q,X,_,_,_,rfl,K,L.mo S.fr (fun c a I=>ai c a I),hp.mo S.fr (fun c I=>by simp only [Xo,Xi,or_false]at I;omega),sR.mo W (fun c a e=>ay c a e),hl,hl1,hl7,eN,kN,aL⟩
 . refine⟨Xp _,Xp _,_,[0],fun u=>if u=0 then 1 else 0,[],S,.inl ⟨rfl,rfl,rfl⟩,(sI _).push (by simp) (by omega) (by omega) (by simp),by simp,by simp,fun v hv=>?_,by simp [aa,ab],by simp [aa,ab],by simp [aa,ab],by simp [aa,ab],by simp [aa],by simp [aa],by simp [aa]⟩
   by_cases e:v=0
   . subst e;simp
   . simp [e]
end Go.Ab
end

/- Nets, cells, flags: what the functions do (part 4). -/
import Derived.Test.YtdicllcgofpggaaGreatDoorNetC
open Go.Ab.Tryz
open Go.Ab.Tryz renaming abEnv->zB,e23E->XQ,F0->XR,e2E->XS,e15->XT
open List renaming range->zM,take_succ_eq_append_getElem->Xa,getD_eq_getElem?_getD->Xb,getElem_mem->Xd,flatMap_cons->Xe,getElem?_eq_getElem->Xg,length_append->Xh,flatMap_append->Xm,flatMap_nil->Xn,take_length->Xq,take->Xr,drop->Xs,mem_singleton->Xt,getElem?_map->Xu,append_assoc->Xv,getElem?_append_right->Xw,getElem?_append_left->Xx,not_mem_nil->Xy,length_take->Xz,length_map->XB,take_of_length_le->XC,all_cons->XE,mem_cons->XF,all_nil->XG,mem_append->XH,map_congr_left->XJ,append_nil->XO,map_cons->XP
open Nat renaming lt_of_lt_of_le->zO,le_trans->Xc,zero_le->Xf,zero_add->Xj,mul_one->Xk,zero_mul->Xl,one_mul->Xo,lt_of_succ_le->Xp,le_refl->XD,zero_ne_one->XI,add_sub_cancel_left->XN
open Bool renaming and_true->Xi
open Int renaming eq_ofNat_of_zero_le->XA,cast_ofNat_Int->XK,toNat_natCast->XL
open Function renaming comp_def->XM
set_option maxHeartbeats 4000000
set_option linter.defProp false
set_option linter.unusedVariables false
set_option linter.unusedSimpArgs false
section
namespace Go.Ab
open Go.Proofs
set_option maxRecDepth 10000
theorem fromKey:KeyF zB 142 Arc.t:=by intro f a c;have S:=Si c;refine aa (n:=5) (rs:=[.tmp 2]) rfl Tryz.e142 rfl rfl rfl (lbt rfl) ?_;simp only [BZ,cE,seval];refine ac (bR (by intro x e;cases e)) S ?_;clear S;intro h b S d;simp only [ae]at S;simp only [BZ,ab,S.ld (b:=b) (o:=1) m0 rfl,seval];exact S.gr
theorem toKey:KeyF zB 140 Arc.s:=by intro f a c;have S:=Si c;refine aa (n:=5) (rs:=[.tmp 2]) rfl Tryz.e140 rfl rfl rfl (lbt rfl) ?_;simp only [BZ,cE,seval];refine ac (bR (by intro x e;cases e)) S ?_;clear S;intro h b S d;simp only [ae]at S;simp only [BZ,ab,S.ld (b:=b) (o:=0) m0 rfl,seval];exact S.gr
theorem fromNext{b:Gra}(a:Good b){c:Value}:NextF zB 141 b c Arc.s:=fun h g d e v f=>netOut_ok d e (by have:=a.many;omega) f
theorem toNext{b:Gra}(a:Good b){c:Value}:NextF zB 139 b c Arc.t:=fun h g d e v f=>Af d e (by have:=a.many;omega) f
theorem ua{j:Hp}(E:j.t.Sized j.n){k:Gra}(f:Good k){q:Value}{F:Nat}(G:bW j F q k){s:Nat}(H:s<k.nodes):
 Ret zB 72 [q,.int .i64 s] j fun r t=>Gr j t/\xe t j.n r (seen k.arcs Arc.s Arc.t) s k.nodes:=by
 have S:=Si E;refine aa (n:=10) (rs:=[.cell 4 218]) rfl Tryz.e72 rfl rfl rfl (lbt rfl) ?_;simp only [BZ];refine ac au S ?_;clear S;intro h l S u;simp only [BZ,seval];have I:=S.fr.n;have J:=(S.row (b:=l) m0).lt S.ok;refine step_ret (AJ S.ok f (G.gr S.gr) H (fromNext f) fromKey (fun a K=>(f.arcs a K).2.1)) ?_;intro v h ⟨g,T⟩;replace S:=S.call g;clear g;obtain⟨w,y,z,D,L,O,rfl,A,B,C,t4,t5,t6,t7,t8⟩:=T;have M:=A.fl;have N:=B.fl;have P:=C.fl;have m: ∀c,ar w c\/ar y c\/ar z c->c≠l:=fun c d e=>by have:=t6 c d;omega
 simp only [BZ,seval];refine aw (S.store (i:=0) rfl Tryz.t218.2.1 (by intro x e;cases e) rfl (by simp only [ae,XE,XG,M.2.1,N.2.1,P.2.1,Xi]) (lbt rfl) ono) ?_;clear S;rintro h ⟨S,p⟩;simp only [LC,ae,lay,Xr,Xs,seval]at S;simp only [BZ,ab];refine(fd (by decide) (by simp only [aS,al,seval];exact gD Tryz.t218.1 Tryz.t218.2.1 (S.lds (b:=l) (o:=0) (n:=3) m0 (lbt rfl)))).2 (gR.2 ?_);exact⟨S.gr,w,y,z,D,L,O,rfl,A.mo p (fun c d=>m c (.inl d)),B.mo p (fun c d=>m c (.inr (.inl d))),C.mo p (fun c d=>m c (.inr (.inr d))),t4,t5,fun c d=>Xc I (t6 c d),t7,t8⟩
theorem sU{j:Hp}(E:j.t.Sized j.n){k:Gra}(f:Good k){q:Value}{F:Nat}(G:bW j F q k){s:Nat}(H:s<k.nodes):
 Ret zB 71 [q,.int .i64 s] j fun r t=>Gr j t/\xe t j.n r (seen k.arcs Arc.t Arc.s) s k.nodes:=by
 have S:=Si E;refine aa (n:=10) (rs:=[.cell 4 218]) rfl Tryz.e71 rfl rfl rfl (lbt rfl) ?_;simp only [BZ];refine ac au S ?_;clear S;intro h l S u;simp only [BZ,seval];have I:=S.fr.n;have J:=(S.row (b:=l) m0).lt S.ok;refine step_ret (AJ S.ok f (G.gr S.gr) H (toNext f) toKey (fun a K=>(f.arcs a K).1)) ?_;intro v h ⟨g,T⟩;replace S:=S.call g;clear g;obtain⟨w,y,z,D,L,O,rfl,A,B,C,t4,t5,t6,t7,t8⟩:=T;have M:=A.fl;have N:=B.fl;have P:=C.fl;have m: ∀c,ar w c\/ar y c\/ar z c->c≠l:=fun c d e=>by have:=t6 c d;omega
 simp only [BZ,seval];refine aw (S.store (i:=0) rfl Tryz.t218.2.1 (by intro x e;cases e) rfl (by simp only [ae,XE,XG,M.2.1,N.2.1,P.2.1,Xi]) (lbt rfl) ono) ?_;clear S;rintro h ⟨S,p⟩;simp only [LC,ae,lay,Xr,Xs,seval]at S;simp only [BZ,ab];refine(fd (by decide) (by simp only [aS,al,seval];exact gD Tryz.t218.1 Tryz.t218.2.1 (S.lds (b:=l) (o:=0) (n:=3) m0 (lbt rfl)))).2 (gR.2 ?_);exact⟨S.gr,w,y,z,D,L,O,rfl,A.mo p (fun c d=>m c (.inl d)),B.mo p (fun c d=>m c (.inr (.inl d))),C.mo p (fun c d=>m c (.inr (.inr d))),t4,t5,fun c d=>Xc I (t6 c d),t7,t8⟩
def wy(x:Int):Int:=min (max x 0) 72057594037927936
theorem BU{a:Hp}(d:a.t.Sized a.n){b c:Nat}{x:Int}(e:a.load b 0 1=some [.int .i64 0])(f:a.load c 0 1=some [.int .i64 72057594037927936]):bG zB 251 [.int .i64 x,ptrTo b,ptrTo c] a (.int .i64 (wy x)):=by have S:=Si d;refine aa (n:=10) (rs:=[.tmp 4]) rfl Tryz.e251 rfl rfl rfl (lbt rfl) ?_;simp only [BZ,ab,e,f,seval];exact⟨rfl,S.gr⟩
theorem Cu{a:Hp}(g:a.t.Sized a.n):Ret zB 250 [.int .i64 0,.int .i64 72057594037927936] a fun v h=>Gr a h/\ ∃b c,v=.func (.func 251) #[] #[ptrTo b,ptrTo c]/\h.load b 0 1=some [.int .i64 0]/\h.load c 0 1=some [.int .i64 72057594037927936]:=by have S:=Si g;refine aa (n:=6) (rs:=[.tmp 4]) rfl Tryz.e250 rfl rfl rfl (lbt rfl) ?_;simp only [BZ,seval];refine ac (bR (by intro x e;cases e)) S ?_;clear S;intro h b S d;simp only [ae]at S;simp only [BZ,if_false,seval];refine ac (bR (by intro x e;cases e)) S ?_;clear S;intro h c S f;simp only [ae]at S;simp only [BZ,ab,seval];exact⟨S.gr,b,c,rfl,S.ld m1 rfl,S.ld m0 rfl⟩
theorem tC{a:Hp}(b:a.t.Sized a.n){x:Int}:bG zB 247 [.int .i64 x] a (.int .i64 (wy x)):=by have S:=Si b;refine aa (n:=6) (rs:=[.tmp 2]) rfl Tryz.e247 rfl rfl rfl (lbt rfl) ?_;simp only [BZ];refine step_ret (Cu S.ok) ?_;intro v h ⟨g,b1,b2,e,e1,e2⟩;replace S:=S.call g;clear g;subst e;simp only [BZ,seval];refine ah (BU S.ok e1 e2) ?_;intro h g;replace S:=S.call g;clear g;simp only [BZ,ab,seval];exact S.gr
theorem yX{a:Hp}(b:a.t.Sized a.n){x:Int}:bG zB 241 [.int .i64 x] a (.bool (decide (wy x<72057594037927936))):=by have S:=Si b;refine aa (n:=6) (rs:=[.tmp 2]) rfl Tryz.e241 rfl rfl rfl (lbt rfl) ?_;simp only [BZ,seval];refine ah (tC S.ok) ?_;intro h g;replace S:=S.call g;clear g;simp only [BZ,ab,seval];exact S.gr
theorem wy_bd(x:Int):0<=wy x/\wy x<=72057594037927936:=by unfold wy;omega
theorem wy_id{x:Int}(a:0<=x)(b:x<=72057594037927936):wy x=x:=by unfold wy;omega
end Go.Ab
end
section
namespace Go.Ab
structure YldP(E:Env)(lb:Nat)(J:Nat->Hp->List Nat->Prop)(n:Nat)(P:Nat->Hp->List Nat->List Value->Prop):Prop where
 lt: ∀i h F,J i h F->h.t.Sized h.n/\ ∀b∈F,b<h.n
 gr: ∀i h F h',J i h F->Gr h h'->J i h' F
 round: ∀i x h F,i<n->P i h F x->J i h F->kL E lb x h fun o h'=>o=.ret (.bool true)/\ ∃F',J (i+1) h' F'/\Mo (· ∈F) h h'/\ ∀b∈F',b∈F\/h.n<=b
def IterP(E:Env)(g:FuncId)(post:List Value)(b:Hp)(D:Nat->Prop)(n:Nat)(P:Nat->Hp->List Nat->List Value->Prop):Prop:=
 ∀a J,YldP E a J n P-> ∀h F,ItS b D h F->J 0 h F->dU E g (.func (.yield a) #[] #[]::post) none h fun o c d=>c=none/\ ∃u e,o=.ret u/\J n d e
theorem BL{E:Env}{cx:Cx}{o:Oper}{l:Loc}{K:Ex->Loc->Hp->Prop}{e h:Hp}{D:Nat->Prop}{f i n:Nat}{J:Nat->Hp->List Nat->Prop}{P:Nat->Hp->List Nat->List Value->Prop}{x:List Value}{F:List Nat}
 (Y:YldP E f J n P) (s:ItS e D h F) (g:J i h F) (j:i<n) (k:P i h F x)
 (m: ∀d F',J (i+1) d F'->ItS e D d F'->Mo (· ∈F) h d->(∀b∈F',b∈F\/h.n<=b)->K .normal (l.put o.dst (.bool true)) d):fD E cx o l K (some (.yield f x,h)):=by
 refine sq (Y.round i x h F j k g) ?_;rintro q d ⟨rfl,F',a,b,c⟩;exact m d F' a (s.mo b c (Y.lt _ _ _ a).2) b c
def encV(w:Value):List Value:=[w]
theorem qw(w:Value):(encV w).length=1:=rfl
theorem zA(l:List Value):l.flatMap encV=l:=by
 induction l with
 |nil=>rfl|cons x l a=>rw [Xe,a];rfl
def eZ(h:Hp)(m:Nat)(v:Value)(n:Nat)(R:Nat->List Int):Prop:=
 ∃a:List Value,ay h 1 encV v a/\a.length=n/\(∀c,ar v c->m<=c)/\ ∀i w,a[i]? =some w->ay h 1 (encI .i64) w (R i)/\ ∀c,ar w c->m<=c
theorem eZ.mo{M:Nat->Prop}{h k:Hp}{m n:Nat}{v:Value}{R:Nat->List Int}(r:eZ h m v n R)(g:Mo M h k)(l: ∀b,M b->b<m):eZ k m v n R:=by obtain⟨o,a,b,c,d⟩:=r;exact⟨o,a.mo g (fun x e f=>by have:=c x e;have:=l x f;omega),b,c,fun i w j=>⟨(d i w j).1.mo g (fun x e f=>by have:=(d i w j).2 x e;have:=l x f;omega),(d i w j).2⟩⟩
theorem eZ.gr{h a:Hp}{m n:Nat}{v:Value}{R:Nat->List Int}(r:eZ h m v n R)(g:Gr h a):eZ a m v n R:=r.mo (M:=NoM) g.fr (fun _ h=>h.elim)
theorem eZ.low{h:Hp}{m f n:Nat}{v:Value}{R:Nat->List Int}(r:eZ h m v n R)(g:f<=m):eZ h f v n R:=by obtain⟨k,a,b,c,d⟩:=r;exact⟨k,a,b,fun x e=>Xc g (c x e),fun i w j=>⟨(d i w j).1,fun x e=>Xc g ((d i w j).2 x e)⟩⟩
theorem eZ.row{h:Hp}{m n:Nat}{v:Value}{R:Nat->List Int}(r:eZ h m v n R){i:Nat}(k:i<n): ∃w,(∃c o,iW (some 1) v (.int .i64 (i:Nat))=some (.pointer (some ⟨c,o,none⟩))/\h.load c o 1=some [w])/\ay h 1 (encI .i64) w (R i)/\ ∀c,ar w c->m<=c:=by obtain⟨e,a,b,c,d⟩:=r;obtain⟨q,o,g,j⟩:=a.ix (kd:=.i64) qw (i:=i) (by omega);have f:e[i]? =some e[i]:=Xg (by omega);exact⟨e[i],⟨q,o,g,j⟩,(d i _ f).1,(d i _ f).2⟩
theorem flat_nat(l:List Nat):l.flatMap eS=(l.map fun(x:Nat)=>(x:Int)).flatMap (encI .i64):=by
 induction l with
 |nil=>rfl|cons x l a=>rw [Xe,XP,Xe,a];rfl
theorem sl_nat{h:Hp}{v:Value}{l:List Nat}(s:ay h 1 eS v l):ay h 1 (encI .i64) v (l.map fun(x:Nat)=>(x:Int)):=by
 rcases s with⟨rfl,rfl⟩|⟨b,o,s,c,rfl,d,a⟩
 . exact .inl ⟨rfl,rfl⟩
 . refine .inr ⟨b,o,s,c,by grind,by grind,?_⟩;rw [XB,a,flat_nat]
def gV(N:Nat)(l:List Int):Prop:=l.length<=16/\ ∀i,i<l.length->0<=l.getD i 0/\l.getD i 0<N/\l.getD i 0∉l.take i
theorem gV.push{N:Nat}{l:List Int}(h:gV N l)(d:l.length<16){x:Int}(f:0<=x)(g:x<N)(j:x∉l):gV N (l++[x]):=by
 refine⟨by simp;omega,fun i b=>?_⟩;simp at b;by_cases e:i=l.length
 . grind
 . have a:i<l.length:=(by omega);have c:(l++[x]).getD i 0=l.getD i 0:=(by grind);rw [c,List.take_append_of_le_length (by omega)];exact h.2 i a
theorem mayL_nil(N:Nat):gV N []:=⟨by simp,fun i a=>by simp at a⟩
structure TabAt(h:Hp)(m:Nat)(p:Value)(N:Nat)(marks:List Int)(R Q:Nat->List Int):Prop where
 ex: ∃b vM vT vF,p=ptrTo b/\Row h b [.int .i64 N,vM,vT,vF] 1/\ay h 1 (encI .i64) vM marks/\eZ h m vT marks.length R/\eZ h m vF marks.length Q/\m<=b/\ ∀c,ar vM c->m<=c
theorem TabAt.mo{M:Nat->Prop}{h c:Hp}{m N:Nat}{p:Value}{a:List Int}{R Q:Nat->List Int}(t:TabAt h m p N a R Q)(g:Mo M h c)(d: ∀b,M b->b<m):TabAt c m p N a R Q:=by obtain⟨b,f,i,j,e,k,l,n,q,r,s⟩:=t.ex;exact⟨b,f,i,j,e,g.has (o:=.row _ 1) k (fun h=>by grind),l.mo g (fun x u v=>by grind),n.mo g d,q.mo g d,r,s⟩
theorem TabAt.gr{h b:Hp}{m N:Nat}{p:Value}{a:List Int}{R Q:Nat->List Int}(t:TabAt h m p N a R Q)(g:Gr h b):TabAt b m p N a R Q:=t.mo (M:=NoM) g.fr (fun _ h=>h.elim)
theorem eZ.lenq{h c:Hp}{m n:Nat}{v:Value}{R:Nat->List Int}{e:TypeId}(r:eZ c m v n R):nS (some (.slice e)) h v=some (.val (.int .i64 n),h):=by have⟨d,a,b,_⟩:=r;rw [<-b];exact a.lenq
end Go.Ab

end
section
namespace Go.Ab
open Go.Proofs
set_option maxRecDepth 10000
theorem may1_ok{b:Hp}(C:b.t.Sized b.n){q s d c N k:Nat}{x:Int}{t:List (Value×Value×Nat)}{f:Int->Option Value}(u:b.load q 0 1=some [.map (some d)])(D:b.load s 0 1=some [.int .i64 N])(v:b.get d=some (.map t c))(y:dT t c f)(hf:(f x).getD (.int .i64 0)=.int .i64 k)(I:k<=1)(E:q≠d)(F:s≠d):
 Ret zB 134 [.int .i64 x,ptrTo q,ptrTo s] b fun r A=>Mo (· =d) b A/\r=.bool (decide (x<0\/(N:Int)<=x\/k=1))/\ ∃es' c',A.get d=some (.map es' c')/\dT es' c' (en f x (some (.int .i64 (k+1:Nat)))):=by
 have S:=St.init1 C (o:=.map t c) v;have B:=uK (x:=x) Tryz.t213.1 Tryz.t3.1 (z:=.int .i64 0) (by kernel_rfl) v y;rw [hf]at B;have w:ag .i64 ((k:Int)+1)=((k+1:Nat):Int):=by rw [wrap64]<;>omega
 refine aa (n:=22) (rs:=[.tmp 4]) rfl Tryz.e134 rfl rfl rfl (lbt rfl) ?_;simp only [BZ,u,B,w,seval];refine aw (S.mputI (i:=0) rfl Tryz.t213.1 Tryz.t3.1 y _) ?_;clear S;rintro h ⟨_,es',c',a,S⟩;simp only [LC]at S;have l:=S.old u E;have e:=S.old D F;have m:h.get d=some (.map es' c'):=(S.own _ m0).2;have g:=uK (x:=x) Tryz.t213.1 Tryz.t3.1 (z:=.int .i64 0) (by kernel_rfl) m a;rw [show en f x (some (.int .i64 ((k+1:Nat):Int))) x=some (.int .i64 ((k+1:Nat):Int)) by unfold en;rw [if_pos rfl],Option.getD_some]at g;by_cases j:x<0
 . simp only [BZ,ab,j,seval];exact⟨S.fr,by simp [j],es',c',m,a⟩
 . by_cases p:(N:Int)<=x
   . simp only [BZ,ab,e,j,p,seval];exact⟨S.fr,by simp [p],es',c',m,a⟩
   . by_cases G:k=1
     . subst G;simp only [BZ,ab,XK,l,e,j,p,g,seval];exact⟨S.fr,by simp,es',c',m,a⟩
     . have H:k=0:=(by omega);subst H;simp only [BZ,ab,XK,l,e,j,p,g,seval];exact⟨S.fr,by simp [j,p],es',c',m,a⟩
def OkAt(N:Nat)(l:List Int)(i:Nat):Prop:=0<=l.getD i 0/\l.getD i 0<N/\l.getD i 0∉l.take i
theorem mayIdx_ok {a:Hp} (X:a.t.Sized a.n) {u y d N:Nat} {v:Value} {l:List Int} (C:ay a 1 (encI .i64) v l) (hl:l.length<=1000) (Y:a.load u 0 1=some [.map (some d)]) (D:a.load y 0 1=some [.int .i64 N]) (M:a.get d=some (.map [] 0)) (O:u≠d) (P:y≠d):
 Ret zB 187 [v,.func (.func 134) #[] #[ptrTo u,ptrTo y]] a fun r Q=>Mo (· =d) a Q/\ ∃z,r=.int .i64 z/\(0<=z↔ ¬ ∀i,i<l.length->OkAt N l i):=by
 have E: ∀c,ar v c-> ¬c=d:=by
  rintro c R rfl;rcases C with⟨rfl,_⟩|⟨b,o,s,S,rfl,_,Z⟩
  . exact R.elim
  . have:b=c:=R;subst this;simp [Hp.load,M]at Z
 refine aa (n:=19) (rs:=[.tmp 4]) rfl Tryz.e187 rfl rfl rfl (lbt rfl) ?_;simp only [BZ,C.lenq,seval];refine az (fun(i:Nat) m h=>i<=l.length/\Mo (· =d) a h/\(∃F c f,h.get d=some (.map F c)/\dT F c f/\ ∀x,f x=if x∈l.take i then some (.int .i64 1)else none)/\(∀j,j<i->OkAt N l j)/\m 0=v/\m 1=.func (.func 134) #[] #[ptrTo u,ptrTo y]/\m 7=.int .i64 l.length/\m 8=.int .i64 i) (fun i=>l.length-i) ?_ 0 _ _ ?_
 . intro i ih m h ⟨hi,mo,⟨F,c,f,hg,MI,hf⟩,hok,r0,r1,r7,r8⟩;by_cases hlt:i<l.length
   . obtain ⟨q,o,p,G⟩:=(C.mo mo E).ix (kd:=.i64) (aH .i64) hlt;have w:ag .i64 ((i:Int)+1)=((i+1:Nat):Int):=(by rw [wrap64]<;>omega);have T: ∀{b:Nat} {x},b≠d->a.load b 0 1=some x->h.load b 0 1=some x:=fun H e=>(by have:=mo.get _ (bJ mo.ok0 e) H;unfold Hp.load at e⊢;rw [this];exact e);have I:l.getD i 0=l[i]:=(by simp [Xb,hlt]);simp only [BZ,r0,r1,r7,r8,an,hlt,p,G,encI,seval];refine step_ret (may1_ok mo.ok (x:=l[i]) (N:=N) (k:=if l[i]∈l.take i then 1 else 0) (T O Y) (T P D) hg MI (by rw [hf];split<;>rfl) (by split<;>omega) O P) ?_;rintro r Q ⟨f1,rfl,J,S,K,L⟩;have t:=mo.trans f1 (fun _ h=>.inl h);by_cases g:OkAt N l i
     . have e:decide (l[i]<0\/(N:Int)<=l[i]\/(if l[i]∈l.take i then 1 else 0)=1)=false:=(by obtain⟨w1,w2,U⟩:=g;rw [I]at w1 w2 U;rw [if_neg U];simp;omega);rw [e];have A:l[i]∉l.take i:=(by have:=g.2.2;rwa [I]at this);simp only [BZ,r8,w,seval];refine ih (i+1) _ _ (by omega) ⟨by omega,t,⟨J,S,_,K,L,fun x=>?_⟩,fun j V=>?_,by simp [am,r0,r1,al,r7]⟩
       . have W:=Xa hlt;rw [if_neg A];unfold en;by_cases B:x=l[i]
         . rw [if_pos B,if_pos (by rw [W];exact List.mem_append_right _ (List.mem_singleton.2 B))];rfl
         . rw [if_neg B,hf];have:x∈l.take (i+1)↔x∈l.take i:=(by rw [W,XH,Xt];exact⟨fun h=>h.resolve_right B,.inl⟩);simp only [this]
       . by_cases D:j=i
         . subst D;exact g
         . exact hok j (by omega)
     . have e:decide (l[i]<0\/(N:Int)<=l[i]\/(if l[i]∈l.take i then 1 else 0)=1)=true:=by
        unfold OkAt at g;rw [I]at g;simp only [decide_eq_true_eq];by_cases A:l[i]∈l.take i
        . rw [if_pos A];exact .inr (.inr rfl)
        . by_cases a1:l[i]<0
          . exact .inl a1
          . by_cases a2:(N:Int)<=l[i]
            . exact .inr (.inl a2)
            . exact absurd ⟨by omega,by omega,A⟩ g
       rw [e];simp only [BZ,ab,seval];exact⟨t,_,rfl,by simp only [Int.natCast_nonneg,true_iff];exact fun h=>g (h i hlt)⟩
   . simp only [BZ,ab,r7,r8,an,hlt,seval];exact⟨mo,_,rfl,⟨fun h=>by omega,fun h=>absurd (fun j V=>hok j (by omega)) h⟩⟩
 . exact⟨Xf _,Mo.refl X,⟨[],0,fun _=>none,M,vj,fun x=>by simp⟩,fun j V=>by omega,by simp [am,cq,cV,al]⟩
noncomputable instance mayDec(N:Nat)(l:List Int):Decidable (gV N l):=Classical.propDecidable _
theorem mayCf_ok{a:Hp}(m:a.t.Sized a.n){e f b N:Nat}{v:Value}{l:List Int}(o:ay a 1 (encI .i64) v l)(p:l.length<=1000)(q:a.load e 0 1=some [.map (some b)])(s:a.load f 0 1=some [.int .i64 N])(t:a.get b=some (.map [] 0))(u:e≠b)(w:f≠b)(d:Decidable (∀i,i<l.length->OkAt N l i)):
 Ret zB 135 [v,.func (.func 134) #[] #[ptrTo e,ptrTo f]] a fun r x=>Mo (· =b) a x/\r=.bool (!decide (∀i,i<l.length->OkAt N l i)):=by
 refine aa (n:=9) (rs:=[.tmp 4]) rfl Tryz.e135 rfl rfl rfl (lbt rfl) ?_;simp only [BZ,seval];refine step_ret (mayIdx_ok m o p q s t u w) ?_;rintro r h ⟨j,z,rfl,k⟩;by_cases c: ∀i,i<l.length->OkAt N l i
 . have g: ¬(0<=z):=fun h=>k.1 h c;simp only [BZ,ab,g,seval];exact⟨j,by rw [decide_eq_true c];rfl⟩
 . have g:0<=z:=k.2 c;simp only [BZ,ab,g,seval];exact⟨j,by rw [decide_eq_false c];rfl⟩
theorem may_ok{a:Hp}(t:a.t.Sized a.n){v:Value}{l:List Int}{N:Nat}(j:ay a 1 (encI .i64) v l)(u:l.length<=1000):bG zB 67 [.int .i64 N,v] a (.bool (decide (gV N l))):=by
 have S:=Si t;refine aa (n:=18) (rs:=[.tmp 4]) rfl Tryz.e67 rfl rfl rfl (lbt rfl) ?_;simp only [BZ,seval];refine ac (bR (by intro x e;cases e)) S ?_;clear S;intro h w S q;simp only [ae]at S;simp only [BZ];refine ac uC S ?_;clear S;intro h B S f;simp only [BZ];refine ac au S ?_;clear S;intro h y S s;simp only [BZ,seval];refine aw (aq S (i:=0) rfl ?_ ?_ ?_ ono) ?_
 . exact(by simp only [XR])
 . exact(by exact fl_map)
 . exact Xp (lbt rfl)
 clear S;rintro h ⟨S,k⟩;clear k;simp only [LC,ae,lay,Xr,Xs,seval]at S;by_cases g:l.length<=16
 . have m:(l.length:Int)<=16:=(by omega);simp only [BZ,j.lenq,m,seval];have p:=S.apart;simp only [keys,XP,List.map_nil,List.filterMap_nil,XO,List.nodup_cons,XF,Xy,or_false,not_or]at p;have d:Decidable (∀i,i<l.length->OkAt N l i):=Classical.propDecidable _;refine step_ret (mayCf_ok S.ok (j.gr S.gr) u (S.ld (b:=y) (o:=0) m0 rfl) (S.ld (b:=w) (o:=0) m2 rfl) (S.own _ m1).2 p.1.1 (fun e=>p.2.1 e.symm) d) ?_;rintro r h ⟨k,rfl⟩;have z:Gr a h:=(S.fr.trans k (fun c A=>.inr (by subst A;exact f)):Mo NoM a h).gr;simp only [BZ,ab,seval];refine⟨?_,z⟩;congr 1;by_cases c: ∀i,i<l.length->OkAt N l i
   . have:gV N l:=⟨g,c⟩;rw [decide_eq_true c,decide_eq_true this];rfl
   . have: ¬gV N l:=fun h=>c h.2;rw [decide_eq_false c,decide_eq_false this];rfl
 . have m: ¬(l.length:Int)<=16:=(by omega);simp only [BZ,ab,j.lenq,m,seval];exact⟨by have: ¬gV N l:=fun h=>g h.1;simp [this],S.gr⟩
open Classical in
noncomputable def dOf(B:List Arc)(s v:Nat):Nat:=if h: ∃x,IsD B s v x then h.choose else 0
theorem tg{B:List Arc}{s v x:Nat}(h:IsD B s v x):dOf B s v=x/\IsD B s v (dOf B s v):=by
 have a: ∃x,IsD B s v x:=⟨x,h⟩;have e:dOf B s v=a.choose:=by unfold dOf;rw [dif_pos a]
 rw [e];exact⟨a.choose_spec.uniq h,a.choose_spec⟩
noncomputable def nj(B:List Arc)(N s:Nat):List Int:=(zM N).map fun v=>((dOf B s v:Nat):Int)
theorem rowD_of{B:List Arc}{N s:Nat}{D:Nat->Nat}(h: ∀v,IsD B s v (D v)):((zM N).map D).map (fun(x:Nat)=>(x:Int))=nj B N s:=by unfold nj;rw [List.map_map];refine XJ fun v _=>?_;show((D v:Nat):Int)=_;rw [(tg (h v)).1]
def RunF(E:Env)(g:FuncId)(a:Gra)(b:Value)(B:List Arc):Prop:= ∀(h:Hp) (d:Nat),h.t.Sized h.n->bW h d b a-> ∀s,s<a.nodes->Ret E g [b,.int .i64 (s:Nat)] h fun r c=>Gr h c/\xe c h.n r B s a.nodes
theorem runTo{a:Gra}(b:Good a){c:Value}:RunF zB 71 a c (seen a.arcs Arc.t Arc.s):=fun h g d e s f=>sU d b e f
theorem runFrom{a:Gra}(b:Good a){c:Value}:RunF zB 72 a c (seen a.arcs Arc.s Arc.t):=fun h g d e s f=>ua d b e f
def PRow(m:Nat)(R:Nat->List Int)(i:Nat)(h:Hp)(F:List Nat)(x:List Value):Prop:= ∃w,x=[w]/\ay h 1 (encI .i64) w (R i)/\ ∀c,ar w c->m<=c/\c∉F
theorem rows_ok{a:Hp}(l:a.t.Sized a.n){p j k:Value}(m:Fl p)(o:Fl j)(q:Fl k):Ret zB 70 [p,j,k] a fun v i=>Gr a i/\ ∃b c d,v=.func (.func 137) #[] #[ptrTo b,ptrTo c,ptrTo d]/\a.n<=b/\a.n<=c/\a.n<=d/\i.load b 0 1=some [j]/\i.load c 0 1=some [k]/\i.load d 0 1=some [p]:=by have S:=Si l;refine aa (n:=8) (rs:=[.tmp 6]) rfl Tryz.e70 rfl rfl rfl (lbt rfl) ?_;simp only [BZ,seval];refine ac (di (by assumption)) S ?_;clear S;intro h d S e;simp only [BZ,if_false,seval];refine ac (di (by assumption)) S ?_;clear S;intro h b S f;simp only [BZ,if_false,seval];refine ac (di (by assumption)) S ?_;clear S;intro h c S g;simp only [BZ,ab,seval];exact⟨S.gr,b,c,d,rfl,f,g,e,S.ld m1 rfl,S.ld m0 rfl,S.ld m2 rfl⟩
theorem rows_it{hq d:Hp}(E:hq.t.Sized hq.n)(e:d.t.Sized d.n)(S:fC hq d)(T:hq.n<=d.n){y p:Value}{j:Gra}{G z q r m:Nat}(U:bW hq G y j){l:List Int}(I:ay d 1 (encI .i64) p l)(H: ∀i,i<l.length->0<=l.getD i 0/\l.getD i 0<j.nodes)(K:l.length<1000){g:FuncId}{B:List Arc}(V:RunF zB g j y B)(W:m<=d.n)
 (X:d.load z 0 1=some [p]) (Z:d.load q 0 1=some [.func (.func g) #[] #[]]) (e3:d.load r 0 1=some [y]):
 IterP zB 137 [ptrTo z,ptrTo q,ptrTo r] d (fun c=>c=z\/c=q\/c=r\/ar p c\/c<hq.n) l.length (PRow m fun i=>nj B j.nodes (l.getD i 0).toNat):=by
 intro lb J Y h F s A;refine enter (n:=22) (rs:=[]) rfl Tryz.e137 rfl rfl rfl (lbt rfl) ?_;have L:=s.load e X (.inl rfl);simp only [BZ,L,I.lenq,seval];refine az (fun(i:Nat) f h=>i<=l.length/\ ∃F,ItS d (fun c=>c=z\/c=q\/c=r\/ar p c\/c<hq.n) h F/\J i h F/\f 0=.func (.yield lb) #[] #[]/\f 2=ptrTo q/\f 3=ptrTo r/\f 7=p/\f 8=.int .i64 l.length/\f 9=.int .i64 i) (fun i=>l.length-i) ?_ 0 _ _ ?_
 . clear L;intro i ih f h ⟨hi,F,s,A,r0,r2,r3,r7,r8,r9⟩;by_cases hlt:i<l.length
   . obtain⟨c,o,t,u⟩:=(s.sl e I (fun b h=>.inr (.inr (.inr (.inl h))))).ix (kd:=.i64) (aH .i64) hlt;have l2:=s.load e Z (.inr (.inl rfl));have l3:=s.load e e3 (.inr (.inr (.inl rfl)));have nt:bW h G y j:=U.keep E (s.keep S T (fun c C=>.inr (.inr (.inr (.inr C)))));have w:ag .i64 ((i:Int)+1)=((i+1:Nat):Int):=(by rw [wrap64]<;>omega);have M:l.getD i 0=l[i]:=(by simp [Xb,hlt]);have N:=H i hlt;rw [M]at N;obtain⟨mk,x⟩: ∃k:Nat,l[i]=k:=⟨l[i].toNat,by omega⟩;rw [x]at u N;simp only [BZ,r0,r2,r3,r7,r8,r9,an,hlt,t,u,encI,l2,l3,seval];refine step_ret (V h G s.ok nt mk (by omega)) ?_;rintro v P ⟨Q,R,vA,vO,D,aL,O,rfl,s1,s2,s3,t4,t5,t6,t7,t8⟩;simp only [BZ,seval];refine BL Y (s.gr Q) (Y.gr _ _ _ _ A Q) (i:=i) hlt ⟨R,rfl,?_,fun c C=>⟨?_,fun hF=>?_⟩⟩ ?_
     . have:=sl_nat s1;rw [rowD_of t5]at this;show ay P 1 _ R (nj B j.nodes (l.getD i 0).toNat);rw [M,x];exact this
     . exact Xc W (Xc s.n (t6 c (.inl C)))
     . have h1:=s.lt c hF;have P:=t6 c (.inl C);omega
     . intro h' F' a s' _ _;simp only [BZ,r9,w,seval];exact ih (i+1) _ _ (by omega) ⟨by omega,F',s',a,by simp [am,r0,r2,al,r3,r7,r8]⟩
   . simp only [BZ,r8,r9,an,hlt,seval];have:i=l.length:=(by omega);subst this;exact dl (cP ⟨rfl,_,rfl,rfl,_,F,rfl,A⟩)
 . exact⟨by omega,F,s,A,by simp [am,dy,al]⟩
theorem AP {q:Hp} (ok:q.t.Sized q.n) {g:FuncId} {post:Array Value} {D:Nat->Prop} {n m:Nat} {R:Nat->List Int} (it:IterP zB g post.toList q D n (PRow m R)) (H:m<=q.n) (hn:n<1000):
 Ret zB 136 [.slice none 0 0,.func (.func g) #[] post] q fun r v=>Gr q v/\eZ v m r n R:=by
 have S:=Si ok;refine aa (n:=13) (rs:=[.tmp 4]) rfl Tryz.e136 rfl rfl rfl (lbt rfl) ?_;simp only [BZ,seval];refine ac (di (by exact ce)) S ?_;clear S;intro h y S Y;simp only [BZ,if_false,seval];replace S:=S.nilG (k:=1);have g0:=S.gr;refine js S (g:=g) (a:=#[]) (b:=post) (by simp [bZ,am,cq,cV]) rfl rfl ?_;intro Z E z A af ai g2;obtain⟨X,hX,A⟩: ∃X:gC,X=_/\St NoM q Z [(z,.loop X),(E,.dfr),(y,.row [.slice none 0 0] 1)] [(.slice none 0 0,1,[])]:=⟨_,rfl,A⟩;have hJ:YldP zB z (fun k v F=> ∃(f:List Value) (p:Value),St NoM q v [(z,.loop X),(E,.dfr),(y,.row [p] 1)] [(p,1,f)]/\f.length=k/\k<=n/\(∀i w,f[i]? =some w->ay v 1 (encI .i64) w (R i)/\ ∀c,ar w c->m<=c/\c∉F)/\F=keys [(z,.loop X),(E,.dfr),(y,.row [p] 1)] [(p,1,f)]) n (PRow m R):=by
  refine⟨?_,?_,?_⟩
  . rintro i h F ⟨f,p,S,_,_,_,rfl⟩;exact⟨S.ok,fun b B=>S.key_lt B⟩
  . rintro i h F v ⟨f,p,S,a,b,c,rfl⟩ gg;exact⟨f,p,S.call gg,a,b,fun i w l=>⟨(c i w l).1.gr gg,(c i w l).2⟩,rfl⟩
  . rintro i x hR F hi ⟨w,rfl,sw,l⟩ ⟨f,p,S,a,b,c,rfl⟩;subst hX;obtain⟨K,N,O,rfl⟩:=sw.form;have fw:Fl (.slice K N O):=ce;refine ju (S.get m0) (by rw [Tryz.e136];rfl) rfl ?_;have Q:=S;replace S:=S.base;simp only [BZ,seval];refine iT S (i:=0) rfl rfl rfl rfl rfl ?_;clear S;intro h S;simp only [LC]at S;simp only [BZ,S.ld (b:=y) (o:=0) m2 rfl,seval];refine ac (bg (by exact Tryz.t39.1) (by exact XQ) (by decide) (by rfl)) S ?_;clear S;intro h bs S ad;simp only [LC,aU,bD,ae,Xl,Xj,Xk,Xo,seval]at S;simp only [BZ,seval];have I:aC h 1 (.slice (some ⟨bs,0,none⟩) 1 1)=some (1,[.slice K N O]):=(by simp only [aC];rw [S.lds (b:=bs) (o:=0) (n:=1*1) m0 (lbt rfl)];rfl);replace S:=S.drop1;refine dX (S.grow (j:=0) (m:=1) (new:=[.slice K N O]) rfl Tryz.t39.1 XQ (by decide) Tryz.t39.2.2.2.2.2 I rfl (by decide) (by simp [fw.2.1]) (by simp;omega)) ?_;clear S I;rintro h s S;simp only [LC]at S;have fv:Fl s:=by
     rcases(S.gown _ m0).1 with⟨e,_⟩|⟨_,_,e,_⟩
     . rw [show s=_ from e];exact ce
     . rw [show s=_ from e];exact ce
    simp only [BZ,seval];refine aw (aq S (i:=2) rfl Tryz.t39.2.2.1 fv (Xp (lbt rfl)) ono) ?_;clear S;rintro h ⟨S,_⟩;simp only [LC]at S;simp only [BZ];refine fG S (i:=0) rfl ?_;clear S;intro h S;simp only [LC]at S;refine⟨rfl,_,⟨f++[.slice K N O],s,Q.rebase S,by simp [a],by omega,fun j u G=>?_,rfl⟩,S.fr,S.key_new⟩;have t:ay h 1 (encI .i64) u (R j)/\ ∀c,ar u c->m<=c/\c∉keys [(z,Ob.dfr),(E,.dfr),(y,.dfr)] [(p,1,f)]/\c<hR.n:=by
     by_cases hj:j<f.length
     . rw [Xx hj]at G;obtain⟨P,C⟩:=c j u G;exact⟨P.mo S.fr (fun x d J=>(C x d).2 J),fun x d=>⟨(C x d).1,(C x d).2,P.lt Q.ok d⟩⟩
     . rw [Xw (by omega)]at G;have U:j-f.length=0:=(by have:=(List.getElem?_eq_some_iff.1 G).1;simp at this;omega);rw [U]at G;cases G;have:j=f.length:=(by omega);subst this;rw [a];exact⟨sw.mo S.fr (fun x d J=>(l x d).2 J),fun x d=>⟨(l x d).1,(l x d).2,sw.lt Q.ok d⟩⟩
    refine⟨t.1,fun x d=>⟨(t.2 x d).1,fun H=>?_⟩⟩;rcases S.key_new x H with h1|h1
    . exact(t.2 x d).2.1 h1
    . have:=(t.2 x d).2.2;omega
 refine eQ (it z _ hJ Z _ ?_ ⟨[],_,A,rfl,Xf _,fun i w l=>by simp at l,rfl⟩) ?_
 . exact⟨A.ok,A.fr.n,fun b B _=>A.gr.get b B,fun b B h=>by have:=(A.key_own B).elim (fun h=>h) (fun h=>h.elim);omega,fun b B=>A.key_lt B⟩
 . rintro o rc v ⟨rfl,u,F,rfl,f,p,T,a,_,c,rfl⟩;subst hX;refine⟨_,T.get m0,XI,?_⟩;have V: ∀i w,f[i]? =some w->ay (v.put z .dead) 1 (encI .i64) w (R i)/\ ∀c,ar w c->m<=c/\c∉keys [(E,.dfr),(y,.row [p] 1)] [(p,1,f)]:=fun i w l=>(by obtain⟨P,C⟩:=c i w l;exact⟨P.mo ((Mo.refl (M:=(· =z)) T.ok).put (.inr rfl) .dead) (fun x d e=>(C x d).2 (by rw [e];exact m0)),fun x d=>⟨(C x d).1,fun H=>(C x d).2 (List.mem_cons_of_mem _ H)⟩⟩);replace T:=T.dead;have S:=T;show Run _ _ _ _ _ _ _ _;simp only [BZ,S.ld (b:=y) (o:=0) m1 rfl,seval];refine fS (gu [E] _ (L:=[(y,_)]) T.base fun h3 W=>⟨rfl,_,rfl,?_⟩);refine⟨(T.fr.trans W.fr (fun c hc=>(T.key_own hc).symm):Mo NoM q h3).gr,f,?_,a,fun x d=>?_,fun i w l=>⟨(V i w l).1.mo W.fr (fun x d J=>((V i w l).2 x d).2 J),fun x d=>((V i w l).2 x d).1⟩⟩
   . exact(W.gown _ m0).1.sl (zA f).symm qw (by decide)
   . exact Xc H (((T.gblk m0 d).1).elim (fun h=>h) (fun h=>h.elim))
theorem xo{a:Hp}(c:a.t.Sized a.n){g:FuncId}{post:Array Value}{D:Nat->Prop}{n m:Nat}{R:Nat->List Int}(d:IterP zB g post.toList a D n (PRow m R))(e:m<=a.n)(f:n<1000):
 Ret zB 69 [.func (.func g) #[] post] a fun r b=>Gr a b/\eZ b m r n R:=by
 have S:=Si c;refine aa (n:=5) (rs:=[.tmp 2]) rfl Tryz.e69 rfl rfl rfl (lbt rfl) ?_;simp only [BZ,seval];refine step_ret (AP S.ok d e f) ?_;intro v h ⟨g,L⟩;replace S:=S.call g;clear g;simp only [BZ,ab,seval];exact⟨S.gr,L⟩
def IterW(E:Env)(g:FuncId)(post:List Value)(a:Hp)(D W:Nat->Prop)(xs:List (List Value)):Prop:=
 ∀c J Z,(∀v h,¬Z (.pan v) h)->Yld E c J Z xs->(∀i h F d,J i h F->Mo W h d->J i d F)-> ∀h F,ItS a D h F->(∀b,W b->h.get b=a.get b)->(∀b∈F,¬W b)->J 0 h F->dU E g ([]++[.func (.yield c) #[] #[]]++post) none h (YQ J Z xs.length)
theorem iter_w{E:Env}{g:FuncId}{post:List Value}{a:Hp}{D:Nat->Prop}{xs:List (List Value)}(H:sS E g [] post a D xs):IterW E g post a D NoM xs:=fun b J Z c Y _ h F s _ _ d=>H b J Z c Y h F s d
theorem natC_len(l:List Nat):(l.flatMap eS).length=l.length:=by rw [aI iC];omega
theorem gkey_blk{h:Hp}{p:GL}(g:iB h p){c:Nat}(a:ar p.1 c):fu p=some c:=by
 rcases g with⟨e,_⟩|⟨b,n,e,_⟩
 . rw [e]at a;exact a.elim
 . obtain⟨v,k,d⟩:=p;simp only []at e a;subst e;exact congrArg some a
theorem zT{d:Hp}(ok:d.t.Sized d.n){g:FuncId}{post:Array Value}{D W:Nat->Prop}{xs:List Nat}(it:IterW zB g post.toList d D W (xs.map fun(x:Nat)=>[.int .i64 x]))(K: ∀b,W b->b<d.n)(hn:xs.length<100000):
 Ret zB 227 [.slice none 0 0,.func (.func g) #[] post] d fun r p=>Mo W d p/\iB p (r,1,xs.flatMap eS)/\ ∀c,ar r c->d.n<=c:=by
 have S:=Si ok;refine aa (n:=13) (rs:=[.tmp 4]) rfl Tryz.e227 rfl rfl rfl (lbt rfl) ?_;simp only [BZ,seval];refine ac (di (by exact ce)) S ?_;clear S;intro h q S v;simp only [BZ,if_false,seval];replace S:=S.nilG (k:=1);have N:=S.gr;replace S:=S.monoM (M:=W);have G:=S.fr;refine js S (g:=g) (a:=#[]) (b:=post) (by simp [bZ,am,cq,cV]) rfl rfl ?_;intro H w u s ad af O;obtain⟨X,P,s⟩: ∃X:gC,X=_/\St W d H [(u,.loop X),(w,.dfr),(q,.row [.slice none 0 0] 1)] [(.slice none 0 0,1,[])]:=⟨_,rfl,s⟩;have Q: ∀c,d.n<=c-> ¬W c:=fun c h I=>by have:=K c I;omega
 have hJ:Yld zB u (fun k p F=> ∃(f:Value),St W d p [(u,.loop X),(w,.dfr),(q,.row [f] 1)] [(f,1,(xs.take k).flatMap eS)]/\k<=xs.length/\(∀c∈F,d.n<=c)/\F=keys [(u,.loop X),(w,.dfr),(q,.row [f] 1)] [(f,1,(xs.take k).flatMap eS)]) (fun _ _=>False) (xs.map fun(x:Nat)=>[.int .i64 x]):=by
  refine⟨?_,?_,fun _ _ h=>h.elim,?_⟩
  . rintro i h F ⟨f,S,_,_,rfl⟩;exact⟨S.ok,fun b l=>S.key_lt l⟩
  . rintro i h F p ⟨f,S,a,b,rfl⟩ E;exact⟨f,S.call E,a,b,rfl⟩
  . rintro i x hR F z ⟨f,S,a,b,rfl⟩;have A:i<xs.length:=(by have:=(List.getElem?_eq_some_iff.1 z).1;simpa using this);rw [Xu,Xg A]at z;cases z;have tk:(xs.take (i+1)).flatMap eS=(xs.take i).flatMap eS++[.int .i64 (xs[i]:Nat)]:=(by rw [List.take_add_one,Xg A,Xm];rfl);have tl:(xs.take i).length<=i:=(by rw [Xz];omega);subst P;refine ju (S.get m0) (by rw [Tryz.e227];rfl) rfl ?_;have R:=S;replace S:=S.base;simp only [BZ,seval];refine iT S (i:=0) rfl rfl rfl rfl rfl ?_;clear S;intro h S;simp only [LC]at S;simp only [BZ,S.ld (b:=q) (o:=0) m2 rfl,seval];refine ac (bg (by exact Tryz.t38.1) (by exact Tryz.e3E) (by decide) (by rfl)) S ?_;clear S;intro h U S V;simp only [LC,aU,bD,ae,Xl,Xj,Xk,Xo,seval]at S;simp only [BZ,seval];have B:aC h 1 (.slice (some ⟨U,0,none⟩) 1 1)=some (1,[.int .i64 (xs[i]:Nat)]):=(by simp only [aC];rw [S.lds (b:=U) (o:=0) (n:=1*1) m0 (lbt rfl)];rfl);replace S:=S.drop1;refine dX (S.grow (j:=0) (m:=1) (new:=[.int .i64 (xs[i]:Nat)]) rfl Tryz.t38.1 Tryz.e3E (by decide) Tryz.t38.2.2.2.2.2 B rfl (by decide) rfl (by rw [natC_len];simp;omega)) ?_;clear S B;rintro h C S;simp only [LC]at S;have fv:Fl C:=(S.gown _ m0).1.fl;simp only [BZ,seval];refine aw (aq S (i:=2) rfl Tryz.t38.2.2.1 fv (Xp (lbt rfl)) ono) ?_;clear S;rintro h ⟨S,_⟩;simp only [LC]at S;simp only [BZ];refine fG S (i:=0) rfl ?_;clear S;intro h S;simp only [LC]at S;rw [<-tk]at S;have J:=R.rebase S;refine .inl ⟨rfl,_,⟨C,J,by omega,fun c e=>?_,rfl⟩,S.fr,fun c e=>(S.key_own e).symm⟩;rcases S.key_own e with Y|Y
    . have:=R.fr.n;omega
    . exact b c Y
 have t: ∀c∈keys [(u,Ob.loop X),(w,.dfr),(q,.row [.slice none 0 0] 1)] [(.slice none 0 0,1,[])],d.n<=c:=fun c e=>by have n2:=v;have:=G.n;simp [keys,fu]at e;omega
 refine eQ (it u _ _ (fun _ _ h=>h) hJ ?_ H _ ?_ ?_ (fun c e=>Q c (t c e)) ⟨_,s,Xf _,t,rfl⟩) fun o rc p y=>mm y ?_
 . rintro i h F p ⟨f,S,a,b,rfl⟩ E;exact⟨f,S.step E (fun c e=>.inl e) (fun c e I=>Q c (b c e) I),a,b,rfl⟩
 . have E:Mo W d H:=s.fr;exact⟨s.ok,s.fr.n,fun b l _=>(N.trans O).get b l,fun b l h=>by have:=t b l;omega,fun b l=>s.key_lt l⟩
 . exact fun b l=>(N.trans O).get b (K b l)
 . rintro F ⟨f,T,a,b,rfl⟩;rw [XB,Xq]at T b;subst P;refine⟨_,T.get m0,XI,?_⟩;replace T:=T.dead;have S:=T;show Run _ _ _ _ _ _ _ _;simp only [BZ,S.ld (b:=q) (o:=0) m1 rfl,seval];refine fS (gu [w] _ (L:=[(q,_)]) T.base fun h3 Z=>⟨rfl,_,rfl,?_⟩);refine⟨(T.fr.trans Z.fr (fun c e=>(T.key_own e).symm):Mo W d h3),(Z.gown _ m0).1,fun x z=>?_⟩;refine b x ?_;have:fu (f,1,xs.flatMap eS)=some x:=gkey_blk (T.gown _ m0).1 z;exact kX m0 this
theorem B0{a:Hp}(e:a.t.Sized a.n){g:FuncId}{post:Array Value}{D W:Nat->Prop}{xs:List Nat}(i:IterW zB g post.toList a D W (xs.map fun(x:Nat)=>[.int .i64 x]))(j: ∀b,W b->b<a.n)(k:xs.length<100000):
 Ret zB 200 [.func (.func g) #[] post] a fun r d=>Mo W a d/\iB d (r,1,xs.flatMap eS)/\ ∀c,ar r c->a.n<=c:=by
 have S:=Si e;refine aa (n:=5) (rs:=[.tmp 2]) rfl Tryz.e200 rfl rfl rfl (lbt rfl) ?_;simp only [BZ,seval];refine step_ret (zT S.ok i j k) ?_;rintro r h ⟨f,q⟩;simp only [BZ,ab,seval];exact⟨f,q⟩
theorem CX{c:Hp}(r:c.t.Sized c.n){v:Value}{a b:Int}(d:ay c 1 (encI .i64) v [a,b]):bG zB 246 [.func (.func 247) #[] #[],v] c (.int .i64 (wy (wy (wy a)+wy b))):=by
 have S:=Si r;have l:=wy_bd a;have y:=wy_bd b;have z:=wy_bd (wy a);have s:ag .i64 1=1:=rfl;have t:ag .i64 2=2:=rfl;have u:ag .i64 (wy a)=wy a:=by rw [wrap64]<;>omega
 have w:wy (wy a)=wy a:=wy_id l.1 l.2;have x:ag .i64 (wy a+wy b)=wy a+wy b:=by rw [wrap64]<;>omega
 refine aa (n:=22) (rs:=[.tmp 4]) rfl Tryz.e246 rfl rfl rfl (lbt rfl) ?_;simp only [BZ,XK,d.lenq,seval];rw [dD];obtain⟨m,o,e,f⟩:=d.ix (kd:=.i64) (aH .i64) (i:=0) (by simp);replace e:iW (some 1) v (.int .i64 0)=some (.pointer (some ⟨m,o,none⟩)):=e;replace f:c.load m o 1=some [.int .i64 a]:=f;simp only [BZ,e,f,seval];refine ah (tC S.ok) ?_;intro h g;replace S:=S.call g;clear g;simp only [BZ,u,Int.zero_add,seval];refine ah (tC S.ok) ?_;intro h g;replace S:=S.call g;clear g;simp only [BZ,s,w,Int.zero_add,seval];rw [dD];obtain⟨p,q,j,k⟩:=(d.gr S.gr).ix (kd:=.i64) (aH .i64) (i:=1) (by simp);replace j:iW (some 1) v (.int .i64 1)=some (.pointer (some ⟨p,q,none⟩)):=j;replace k:h.load p q 1=some [.int .i64 b]:=k;simp only [BZ,j,k,seval];refine ah (tC S.ok) ?_;intro h g;replace S:=S.call g;clear g;simp only [BZ,x,seval];refine ah (tC S.ok) ?_;intro h g;replace S:=S.call g;clear g;simp only [BZ,t,seval];rw [dD];simp only [BZ,ab,seval];exact S.gr
theorem add_ok{c:Hp}(f:c.t.Sized c.n){a b:Int}:bG zB 240 [.int .i64 a,.int .i64 b] c (.int .i64 (wy (wy (wy a)+wy b))):=by have S:=Si f;refine aa (n:=9) (rs:=[.tmp 4]) rfl Tryz.e240 rfl rfl rfl (lbt rfl) ?_;simp only [BZ,seval];refine ac (bg (by exact Tryz.t23.1) (by exact XS) (by decide) (by rfl)) S ?_;clear S;intro h d S e;simp only [LC,aU,bD,ae,Xl,Xj,Xk,Xo,seval]at S;simp only [BZ,seval];refine ah (CX S.ok (a:=a) (b:=b) (.inr ⟨d,0,none,2,rfl,XD _,S.lds (b:=d) (o:=0) (n:=2*1) m0 (lbt rfl)⟩)) ?_;intro h g;replace S:=S.call g;clear g;simp only [BZ,ab,seval];exact S.gr
structure jc(h:Hp)(nb:Nat)(p:Value)(N:Nat)(m:List Int)(c:Nat->Nat):Prop where
 at0:iP h nb p m
 len:m.length=N
 val: ∀v,v<N->m.getD v 0=(c v:Int)
theorem jc.gr{h a:Hp}{b N:Nat}{p:Value}{m:List Int}{c:Nat->Nat}(x:jc h b p N m c)(g:Gr h a):jc a b p N m c:=⟨x.at0.gr g,x.len,x.val⟩
theorem jc.keep{h a:Hp}{d N:Nat}{p:Value}{m:List Int}{c:Nat->Nat}(e:h.t.Sized h.n)(x:jc h d p N m c)(g:fC h a):jc a d p N m c:=by obtain⟨b,v,rfl,r,s,f,i⟩:=x.at0;exact⟨⟨b,v,rfl,g.row e r,s.keep e g,f,i⟩,x.len,x.val⟩
theorem zK{a:Hp}(f:a.t.Sized a.n){g N:Nat}{p:Value}{m:List Int}{c:Nat->Nat}(x:jc a g p N m c){v:Nat}(h:v<N):bG zB 198 [p,.int .i64 (v:Nat)] a (.int .i64 (c v:Nat)):=by
 have S:=Si f;obtain⟨b,u,rfl,r,s,_,_⟩:=x.at0;have j:=r.load1 (o:=0) rfl;have w:=x.len;have k: ¬(v:Int)<0:=by omega
 have l: ¬(m.length:Int)<=(v:Int):=by omega
 obtain⟨d,o,q,e⟩:=s.ix (kd:=.i64) (aH .i64) (i:=v) (by omega);have t:m[v]'(by omega)=(c v:Int):=by rw [<-x.val v h,Xb,Xg (by omega)];rfl
 rw [t]at e;replace e:a.load d o 1=some [.int .i64 (c v:Nat)]:=e;refine aa (n:=27) (rs:=[.tmp 4]) rfl Tryz.e198 rfl rfl rfl (lbt rfl) ?_;simp only [BZ,ab,k,j,s.lenq,l,q,e,seval];exact S.gr
theorem inside_ok{j:Hp}(B:j.t.Sized j.n){C D r N:Nat}{p:Value}{d:Gra}{m:List Int}{c:Nat->Nat}(l:Good d)(E:bW j C (ptrTo r) d)(x:jc j D p d.nodes m c){k a:Nat}(q:a<d.arcs.length):
 bG zB 150 [ptrTo r,p,.int .i64 (k:Nat),.int .i64 (a:Nat)] j (.bool (decide (c (d.arcs.getD a default).s=k/\c (d.arcs.getD a default).t=k))):=by
 have S:=Si B;have J:Fl p:=by obtain⟨b,_,rfl,_⟩:=x.at0;exact cS
 have s:d.arcs[a]=d.arcs.getD a default:=by simp [Xb,q]
 have F:d.arcs.getD a default∈d.arcs:=by rw [<-s];exact Xd q
 obtain⟨t,u,_⟩:=l.arcs _ F;refine aa (n:=34) (rs:=[.tmp 8]) rfl Tryz.e150 rfl rfl rfl (lbt rfl) ?_;simp only [BZ,seval];refine step_ret (q7 S.ok E q) ?_;rintro K h ⟨g4,rfl⟩;replace S:=S.call g4;rw [s];generalize d.arcs.getD a default=A at t u;simp only [BZ,cE,seval];refine ac au S ?_;clear S;intro h v S w;simp only [BZ,seval];refine aw (S.store (i:=0) rfl ?_ ?_ rfl rfl ?_ ono) ?_
 . exact(by exact Tryz.t90.2.1)
 . exact(by intro x e;cases e)
 . exact lbt rfl
 clear S;rintro h ⟨S,G⟩;clear G;simp only [LC,ae,lay,Xr,Xs,seval]at S;simp only [BZ,S.ld (b:=v) (o:=0) m0 rfl,seval];refine ah (zK S.ok (x.gr S.gr) t) ?_;intro L H;replace S:=S.call H;by_cases y:c A.s=k
 . have f:(c A.s:Int)=(k:Int):=(by omega);simp only [BZ,f,S.ld (b:=v) (o:=1) m0 rfl,seval];refine ah (zK S.ok (x.gr S.gr) u) ?_;intro M I;replace S:=S.call I;by_cases z:c A.t=k
   . have g:(c A.t:Int)=(k:Int):=(by omega);simp only [BZ,ab,g,seval];exact⟨by rw [decide_eq_true ⟨y,z⟩],S.gr⟩
   . have g: ¬(c A.t:Int)=(k:Int):=(by omega);simp only [BZ,ab,g,seval];exact⟨by rw [decide_eq_false (fun h=>z h.2)],S.gr⟩
 . have f: ¬(c A.s:Int)=(k:Int):=(by omega);simp only [BZ,ab,f,seval];exact⟨by rw [decide_eq_false (fun h=>y h.1)],S.gr⟩
end Go.Ab
end
section
namespace Go.Ab
open Go.Proofs
set_option maxRecDepth 10000
theorem pairN{x:Option Tch}:kK none x=true:=by cases x<;>rfl
theorem fC.grk{hq a h:Hp}(k:fC hq a)(n:hq.n<=a.n)(g:Gr a h):fC hq h:=fun b c=>(g.get b (zO c n)).trans (k b c)
def HoldP(E:Env)(hq:Hp)(g:FuncId)(post:List Value)(N:Nat)(f:Nat->Bool):Prop:= ∀h,h.t.Sized h.n->fC hq h->hq.n<=h.n-> ∀v,v<N->bG E g ([.int .i64 (v:Nat)]++post) h (.bool (f v))
theorem indexI_ok{hq a:Hp}(b:a.t.Sized a.n)(t:fC hq a)(q:hq.n<=a.n){v:Value}{xs:List Nat}{N:Nat}{g:FuncId}{post:Array Value}{f:Nat->Bool}(m:ay a 1 eS v xs)(E:xs.length<=1000)(u: ∀x∈xs,x<N)(hf:HoldP zB hq g post.toList N f):
 Ret zB 187 [v,.func (.func g) #[] post] a fun r y=>Gr a y/\ ∃z:Int,r=.int .i64 z/\(0<=z↔xs.any f=true):=by
 have S:=Si b;have F:=m.fl;refine aa (n:=19) (rs:=[.tmp 4]) rfl Tryz.e187 rfl rfl rfl (lbt rfl) ?_;simp only [BZ,m.lenq,seval];refine az (fun(i:Nat) d h=>i<=xs.length/\Gr a h/\(∀j,(l:j<xs.length)->j<i->f xs[j]=false)/\d 0=v/\d 1=.func (.func g) #[] post/\d 7=.int .i64 (xs.length:Nat)/\d 8=.int .i64 i) (fun i=>xs.length-i) ?_ 0 _ _ ?_
 . clear S;intro i A d h ⟨hi,g1,hno,r0,r1,r7,r8⟩;have w:ag .i64 ((i:Int)+1)=((i+1:Nat):Int):=(by rw [wrap64]<;>omega);by_cases hlt:i<xs.length
   . obtain⟨c,o,B,p⟩:=(m.gr g1).ix (kd:=.i64) iC hlt;replace p:h.load c o 1=some [.int .i64 (xs[i]:Nat)]:=p;simp only [BZ,r0,r1,r7,r8,an,hlt,B,p,seval];refine ah (hf _ g1.ok (t.grk q g1) (Xc q g1.n) xs[i] (u _ (Xd hlt))) ?_;intro G s;cases k:f xs[i]with
     | true=>
       simp only [BZ,ab,seval];refine⟨g1.trans s,_,rfl,⟨fun _=>List.any_eq_true.2 ⟨_,Xd hlt,k⟩,fun _=>by omega⟩⟩
     | false=>
       simp only [BZ,r8,w,seval];refine A (i+1) _ _ (by omega) ⟨by omega,g1.trans s,fun j l C=>?_,by simp [am,r0,r1,r7]⟩;by_cases e:j=i
       . subst e;exact k
       . exact hno j l (by omega)
   . simp only [BZ,ab,r7,r8,an,hlt,seval];refine⟨g1,_,rfl,⟨fun h=>by omega,fun h=>?_⟩⟩;obtain⟨x,D,k⟩:=List.any_eq_true.1 h;obtain⟨j,l,e⟩:=List.getElem_of_mem D;rw [<-e,hno j l (by omega)]at k;cases k
 . exact⟨Xf _,Gr.refl b,fun j _ h=>by omega,by simp [am,dy]⟩
theorem AD{hq a:Hp}(b:a.t.Sized a.n)(k:fC hq a)(l:hq.n<=a.n){v:Value}{xs:List Nat}{N:Nat}{g:FuncId}{post:Array Value}{f:Nat->Bool}(e:ay a 1 eS v xs)(m:xs.length<=1000)(o: ∀x∈xs,x<N)(hf:HoldP zB hq g post.toList N f):
 bG zB 135 [v,.func (.func g) #[] post] a (.bool (xs.any f)):=by
 have S:=Si b;have p:=e.fl;refine aa (n:=9) (rs:=[.tmp 4]) rfl Tryz.e135 rfl rfl rfl (lbt rfl) ?_;simp only [BZ,seval];refine step_ret (indexI_ok b k l e m o hf) ?_;rintro r h ⟨i,z,rfl,j⟩;cases c:xs.any f with
 | true=>have d:=j.2 c;simp only [BZ,ab,d,seval];exact i| false=>
   have d: ¬0<=z:=fun h=>(by rw [j.1 h]at c;cases c);simp only [BZ,ab,d,seval];exact i
section
variable{hq:Hp}{γ:Gra}{nb mb bp k:Nat}{p:Value}{m:List Int}{c:Nat->Nat}
def beyB(γ:Gra)(c:Nat->Nat)(k a:Nat):Bool:=!decide (c (γ.arcs.getD a default).s=k)
theorem beyond_ok(f:hq.t.Sized hq.n)(u:Good γ)(K:bW hq nb (ptrTo bp) γ)(x:jc hq mb p γ.nodes m c){w y z:Nat}(L:hq.load w 0 1=some [ptrTo bp])(B:hq.load y 0 1=some [p])(C:hq.load z 0 1=some [.int .i64 (k:Nat)]):
 HoldP zB hq 199 [ptrTo w,ptrTo y,ptrTo z] γ.arcs.length (beyB γ c k):=by
 intro h M g N a v;have S:=Si M;have D:γ.arcs[a]=γ.arcs.getD a default:=by simp [Xb,v]
 have O:γ.arcs.getD a default∈γ.arcs:=by rw [<-D];exact Xd v
 obtain⟨E,P,_⟩:=u.arcs _ O;refine aa (n:=24) (rs:=[.tmp 5]) rfl Tryz.e199 rfl rfl rfl (lbt rfl) ?_;simp only [BZ,g.load f L,seval];refine step_ret (q7 S.ok (K.keep f g) v) ?_;rintro T U ⟨g4,rfl⟩;replace S:=S.call g4;unfold beyB;rw [D];generalize γ.arcs.getD a default=A at E P;simp only [BZ,cE,seval];refine ac au S ?_;clear S;intro h F S G;simp only [BZ,seval];refine aw (S.store (i:=0) rfl ?_ ?_ rfl rfl ?_ ono) ?_
 . exact(by exact Tryz.t90.2.1)
 . exact(by intro x e;cases e)
 . exact lbt rfl
 clear S;rintro h ⟨S,Q⟩;clear Q;simp only [LC,ae,lay,Xr,Xs,seval]at S;have l:=g.grk N S.gr;obtain⟨b,V,rfl,r,s,_,_⟩:=(x.keep f l).at0;have H:=r.load1 (o:=0) rfl;have W:=x.len;obtain⟨d,o,I,t⟩:=s.ix (kd:=.i64) (aH .i64) (i:=A.s) (by omega);have R:m[A.s]'(by omega)=(c A.s:Int):=by rw [<-x.val A.s E,Xb,Xg (by omega)];rfl
 rw [R]at t;simp only [encI]at t;simp only [BZ,seval];refine av (ax rfl) (q:=0) (ps:=[]) (by kernel_rfl) ?_;by_cases J:c A.s=k
 . have j:(c A.s:Int)=(k:Int):=(by omega);simp only [BZ,cls,ab,l.load f B,l.load f C,H,I,t,j,S.ld (b:=F) (o:=0) m0 rfl,seval];exact⟨by rw [decide_eq_true J];rfl,S.gr⟩
 . have j: ¬(c A.s:Int)=(k:Int):=(by omega);simp only [BZ,cls,ab,l.load f B,l.load f C,H,I,t,j,S.ld (b:=F) (o:=0) m0 rfl,seval];exact⟨by rw [decide_eq_false J];rfl,S.gr⟩
def borB(γ:Gra)(c:Nat->Nat)(k v:Nat):Bool:=decide (c v=k)&&(outs γ.arcs Arc.t γ.arcs.length v).any (beyB γ c k)
theorem CS(f:hq.t.Sized hq.n)(j:Good γ)(D:bW hq nb (ptrTo bp) γ)(x:jc hq mb p γ.nodes m c){y z A E:Nat}(F:hq.load y 0 1=some [p])(G:hq.load z 0 1=some [.int .i64 (k:Nat)])(H:hq.load A 0 1=some [ptrTo bp])(l4:hq.load E 0 1=some [.func (.func 199) #[] #[ptrTo A,ptrTo y,ptrTo z]]):
 HoldP zB hq 202 [ptrTo y,ptrTo z,ptrTo A,ptrTo E] γ.nodes (borB γ c k):=by
 intro h l g I v J;have S:=Si l;obtain⟨b,vm,rfl,r,s,_,_⟩:=(x.keep f g).at0;have K:=r.load1 (o:=0) rfl;have hl:=x.len;obtain⟨d,o,L,w⟩:=s.ix (kd:=.i64) (aH .i64) (i:=v) (by omega);have ev:m[v]'(by omega)=(c v:Int):=by rw [<-x.val v J,Xb,Xg (by omega)];rfl
 rw [ev]at w;replace w:h.load d o 1=some [.int .i64 (c v:Nat)]:=w;have B:=g.load f F;have C:=g.load f G;have M:=g.load f H;have N:=g.load f l4;have O:=bJ l B;have P:=bJ l C;have Q:=bJ l M;have R:=bJ l N;have T:=r.lt l;have U:=bJ l w;unfold borB;by_cases V:c v=k
 . have t:(c v:Int)=(k:Int):=(by omega);refine aa (n:=23) (rs:=[.tmp 6]) rfl Tryz.e202 rfl rfl rfl (lbt rfl) ?_;simp only [BZ];refine av (ax rfl) (q:=0) (ps:=[(12,13)]) (by kernel_rfl) ?_;simp only [BZ,cls,B,C,M,K,L,w,t,seval];refine cg (Af S.ok (D.keep f g) (by have:=j.many;omega) J) ?_;rintro vl h2 ⟨e,sl,_⟩;have W:=aP e O;have X:=aP e P;have Y:=aP e Q;have Z:=aP e R;have ub:=aP e T;have ud:=aP e U;replace S:=S.call e;simp only [BZ,cls,e.load N,seval];refine fh (AD S.ok (g.grk I e) (Xc I e.n) sl (by have:=j.many;have:=qE γ.arcs Arc.t γ.arcs.length v;omega) (fun a ha=>(sH.1 ha).1) (post:=#[ptrTo A,ptrTo y,ptrTo z]) (beyond_ok f j D x H F G)) ?_;intro h3 u;have w1:=aP u (zO O e.n);have w2:=aP u (zO P e.n);have w3:=aP u (zO Q e.n);have w4:=aP u (zO R e.n);have wb:=aP u (zO T e.n);have wd:=aP u (zO U e.n);replace S:=S.call u;simp only [BZ,cls,ab,seval];refine⟨by simp only [aY,bj,aR,bo,aW,ne_eq,not_false_eq_true,bz,bK,aX,aV,bZ,cw,aS,Xi,al,cq,cV,aT W,aT X,aT Y,aT Z,aT ub,aT ud,aE W,aE X,aE Y,aE Z,aE ub,aE ud,aT w1,aT w2,aT w3,aT w4,aT wb,aT wd,aE w1,aE w2,aE w3,aE w4,aE wb,aE wd,seval],?_⟩;exact⟨by rw [decide_eq_true V,Bool.true_and],S.gr⟩
 . have t: ¬(c v:Int)=(k:Int):=(by omega);refine aa (n:=23) (rs:=[.tmp 6]) rfl Tryz.e202 rfl rfl rfl (lbt rfl) ?_;simp only [BZ];refine av (ax rfl) (q:=0) (ps:=[(12,13)]) (by kernel_rfl) ?_;simp only [BZ,cls,ab,B,C,K,L,w,t,seval];refine⟨by simp only [aY,bj,aR,bo,aW,ne_eq,not_false_eq_true,bz,bK,aX,aV,bZ,cw,aS,Xi,al,cq,cV,yQ,pairN,seval],?_⟩;exact⟨by rw [decide_eq_false V,Bool.false_and],S.gr⟩
end
end Go.Ab

end
section
namespace Go.Ab
open Go.Proofs
set_option maxRecDepth 10000
theorem cnodes_ok{a:Hp}(i:a.t.Sized a.n){p f:Value}(j:Fl p)(k:Fl f):Ret zB 201 [p,f] a fun v g=>Gr a g/\ ∃b c,v=.func (.func 228) #[] #[ptrTo b,ptrTo c]/\a.n<=b/\a.n<=c/\g.load b 0 1=some [p]/\g.load c 0 1=some [f]:=by have S:=Si i;refine aa (n:=6) (rs:=[.tmp 4]) rfl Tryz.e201 rfl rfl rfl (lbt rfl) ?_;simp only [BZ,seval];refine ac (di (by assumption)) S ?_;clear S;intro h b S d;simp only [BZ,if_false,seval];refine ac (di (by assumption)) S ?_;clear S;intro h c S e;simp only [BZ,ab,seval];exact⟨S.gr,b,c,rfl,d,e,S.ld m1 rfl,S.ld m0 rfl⟩
theorem cnodes_it {hq d:Hp} (u:hq.t.Sized hq.n) (k:d.t.Sized d.n) (E:fC hq d) (y:hq.n<=d.n) {L N:Nat} {p:Value} {m:List Int} {c:Nat->Nat} (x:jc hq L p N m c) (V:N<=1000) {l q:Nat} {g:FuncId} {post:Array Value} {f:Nat->Bool} (hf:HoldP zB hq g post.toList N f)
 (M:d.load l 0 1=some [p]) (O:d.load q 0 1=some [.func (.func g) #[] post]):
 sS zB 228 [] [ptrTo l,ptrTo q] d (fun c=>c=l\/c=q\/c<hq.n) (((zM N).filter f).map fun(v:Nat)=>[.int .i64 (v:Nat)]):=by
 intro P J Z Q Y h F s e;have G:=s.load k M (.inl rfl);obtain⟨b,W,rfl,r,H,_,_⟩:=(x.keep u (s.keep E y (fun c z=>.inr (.inr z)))).at0;have I:=r.load1 (o:=0) rfl;have X:=x.len;have A:(m.length:Int)=(N:Int):=by omega
 refine enter (n:=25) (rs:=[]) rfl Tryz.e228 rfl rfl rfl (lbt rfl) ?_;simp only [BZ,G,I,H.lenq,A,seval];refine az (fun(i:Nat) j h=>i<=N/\ ∃F,ItS d (fun c=>c=l\/c=q\/c<hq.n) h F/\J ((zM i).filter f).length h F/\j 0=.func (.yield P) #[] #[]/\j 1=ptrTo l/\j 2=ptrTo q/\j 11=.int .i64 (N:Nat)/\j 12=.int .i64 i) (fun i=>N-i) ?_ 0 _ _ ?_
 . clear G s e F r H I h;intro i K j h ⟨hi,F,s,e,r0,r1,r2,r11,r12⟩;have w:ag .i64 ((i:Int)+1)=((i+1:Nat):Int):=(by rw [wrap64]<;>omega);by_cases hlt:i<N
   . have R:=s.load k O (.inr (.inl rfl));simp only [BZ,r2,r11,r12,an,hlt,R,seval];refine ah (hf _ s.ok (s.keep E y (fun c z=>.inr (.inr z))) (Xc y s.n) i hlt) ?_;intro h2 t;cases B:f i with
     | true=>
       have S:(((zM N).filter f).map fun(v:Nat)=>[Value.int .i64 (v:Nat)])[((zM i).filter f).length]? =some [.int .i64 (i:Nat)]:=(by rw [Xu,xa B _ hlt];rfl);have C:((zM (i+1)).filter f).length=((zM i).filter f).length+1:=(by rw [lO,if_pos B];simp);simp only [BZ,r0,seval];refine gz Y (s.gr t) (Y.gr _ _ _ _ e t) (i:=((zM i).filter f).length) S ?_ ?_ ?_
       . intro D T a U _ _;simp only [BZ,r12,w,seval];exact K (i+1) _ _ (by omega) ⟨by omega,T,U,by rw [C];exact a,by simp [am,r0,r1,al,r2,r11]⟩
       . intro D a _;simp only [BZ,seval];exact iL rfl ⟨rfl,.inr (.inl ⟨_,rfl,a⟩)⟩
       . intro v D a;exact absurd a (Q v D)
     | false=>have C:(zM (i+1)).filter f=(zM i).filter f:=(by rw [lO,if_neg (by rw [B];decide)];simp);simp only [BZ,r12,w,seval];exact K (i+1) _ _ (by omega) ⟨by omega,F,s.gr t,by rw [C];exact Y.gr _ _ _ _ e t,by simp [am,r0,r1,al,r2,r11]⟩
   . simp only [BZ,r11,r12,an,hlt,seval];have:i=N:=(by omega);subst this;exact dl (cP ⟨rfl,_,rfl,rfl,.inl ⟨_,F,rfl,by simpa using e⟩⟩)
 . exact⟨Xf _,F,s,e,by simp [am,dy,al]⟩
theorem border_ok{a:Hp}(A:a.t.Sized a.n){j:Gra}{U V F k:Nat}{p:Value}{m:List Int}{c:Nat->Nat}(l:Good j)(G:bW a U (ptrTo F) j)(x:jc a V p j.nodes m c):
 Ret zB 151 [p,ptrTo F,.int .i64 (k:Nat)] a fun r H=>Gr a H/\ay H 1 eS r ((zM j.nodes).filter (borB j c k))/\ ∀c,ar r c->a.n<=c:=by
 have S:=Si A;have fp:Fl p:=by obtain⟨b,_,rfl,_⟩:=x.at0;exact cS
 obtain⟨bc,W,rfl,r,s,_,_⟩:=x.at0;have X:=r.load1 (o:=0) rfl;have Y:=x.len;have Z:=l.n1;have n2:=l.n2;have B:(m.length:Int)=(j.nodes:Int):=by omega
 obtain⟨I,ov,sv,cv,ev⟩: ∃d o s c,W=.slice (some ⟨d,o,s⟩) m.length c:=by
  rcases s with⟨_,e⟩|⟨d,o,s,c,e,_⟩
  . subst e;simp at Y;omega
  . exact⟨d,o,s,c,e⟩
 subst ev;have C:I<a.n:=s.lt A (b:=I) rfl;refine aa (n:=29) (rs:=[.tmp 6]) rfl Tryz.e151 rfl rfl rfl (lbt rfl) ?_;simp only [BZ,seval];refine ac (di (by exact cS)) S ?_;clear S;intro h t S J;simp only [BZ,if_false,seval];refine ac (di (by exact cS)) S ?_;clear S;intro h w S K;simp only [BZ,if_false,seval];refine ac (di (by exact ca)) S ?_;clear S;intro h L S M;have z3:=(S.row (b:=t) m2).lt S.ok;have z4:=(S.row (b:=w) m1).lt S.ok;have zc:=zO (r.lt A) S.gr.n;have zd:=zO C S.gr.n;have D:=S.gr.load X;have s':=s.gr S.gr;simp only [BZ];refine av (ax rfl) (q:=0) (ps:=[(8,13),(8,12),(8,9)]) (by kernel_rfl) ?_;simp only [BZ,cls,S.ld (b:=t) (o:=0) m2 rfl,S.ld (b:=w) (o:=0) m1 rfl,seval];refine fh (cM S.ok (G.gr S.gr)) ?_;intro h1 u;have N:=aP u z3;have O:=aP u z4;have P:=aP u zc;have Q:=aP u zd;have y:=u.load D;replace S:=S.call u;simp only [BZ,cls,y,s'.lenq,B,S.ld (b:=t) (o:=0) m2 rfl,S.ld (b:=w) (o:=0) m1 rfl,seval];refine⟨by simp only [aY,bj,aR,bo,aW,ne_eq,not_false_eq_true,bz,bK,aX,aV,bZ,cw,aS,Xi,al,Bk,aT N,aT O,aT P,aE N,aE O,aE P,aT Q,aE Q,seval],?_⟩;refine ac au S ?_;clear S;intro h R S T;simp only [BZ,seval];refine aw (aq S (i:=0) rfl Tryz.t214.2.1 iq (Xp (lbt rfl)) ono) ?_;clear S;rintro h2 ⟨S,_⟩;simp only [LC]at S;simp only [BZ,S.ld (b:=t) (o:=0) m3 rfl,seval];have E:=S.gr;have z:=S.ok;have l3:=S.ld (b:=t) (o:=0) m3 rfl;have l4:=S.ld (b:=w) (o:=0) m2 rfl;have l5:=S.ld (b:=L) (o:=0) m1 rfl;have l7:=S.ld (b:=R) (o:=0) m0 rfl;have hf:=CS z l (G.gr E) (x.gr E) l3 l5 l4 l7;refine step_ret (cnodes_ok S.ok cS iq) ?_;rintro v h4 ⟨g,b1,b2,rfl,Z,ad,y1,y2⟩;have it:=cnodes_it z g.ok g.keep g.n (x.gr E) (by omega) (g:=202) (post:=#[ptrTo t,ptrTo L,ptrTo w,ptrTo R]) hf y1 y2;replace S:=S.call g;simp only [BZ,seval];refine step_ret (B0 S.ok (g:=228) (post:=#[ptrTo b1,ptrTo b2]) (iter_w it) (fun _ h=>h.elim) (by have:=xW (n:=j.nodes) (f:=borB j c k);omega)) ?_;rintro r h5 ⟨f5,G5,d5⟩;have g5:=f5.gr;have k5:=S.fr.n;replace S:=S.call g5;simp only [BZ,ab,seval];exact⟨S.gr,G5.sl rfl iC (by decide),fun c hc=>by have:=d5 c hc;omega⟩
theorem CL{a:Hp}(e:a.t.Sized a.n){c:Gra}{f d b:Nat}(g:bW a f (ptrTo d) c)(k:b<c.nodes):bG zB 229 [ptrTo d,.int .i64 (b:Nat)] a (.bool true):=by
 have S:=Si e;have h:(0:Int)<=(b:Int):=by omega
 have i:(b:Int)<(c.nodes:Int):=by omega
 refine aa (n:=17) (rs:=[.tmp 4]) rfl Tryz.e229 rfl rfl rfl (lbt rfl) ?_;simp only [BZ,h,seval];refine ah (cM S.ok g) ?_;intro l j;simp only [BZ,ab,i,seval];exact j
noncomputable def j9(c:Gra)(b a:Nat):Bool:=decide (dOf (seen c.arcs Arc.t Arc.s) b (c.arcs.getD a default).s<FAR/\dOf (seen c.arcs Arc.t Arc.s) b (c.arcs.getD a default).t<FAR/\dOf (seen c.arcs Arc.t Arc.s) b (c.arcs.getD a default).s=(c.arcs.getD a default).w+dOf (seen c.arcs Arc.t Arc.s) b (c.arcs.getD a default).t)
def HoldA(E:Env)(hq:Hp)(x:Nat)(g:FuncId)(post:List Value)(N:Nat)(f:Nat->Bool):Prop:= ∀h,h.t.Sized h.n->(∀b,b<hq.n->b≠x->h.get b=hq.get b)->hq.n<=h.n-> ∀v,v<N->bG E g ([.int .i64 (v:Nat)]++post) h (.bool (f v))
theorem me{h a:Hp}{b o n:Nat}{l:List Value}(e:h.load b o n=some l)(g:a.get b=h.get b):a.load b o n=some l:=by unfold Hp.load at e⊢;rw [g];exact e
theorem sl_get{a:Type}{h d:Hp}{k:Nat}{enc:a->List Value}{v:Value}{xs:List a}(s:ay h k enc v xs)(g: ∀c,ar v c->d.get c=h.get c):ay d k enc v xs:=by
 rcases s with s|⟨b,o,s,c,e,f,i⟩
 . exact .inl s
 . exact .inr ⟨b,o,s,c,e,f,me i (g b (by rw [e];rfl))⟩
theorem tells1_ok{g hq:Hp}(E:g.t.Sized g.n)(j:hq.t.Sized hq.n)(Y:fC g hq)(N:g.n<=hq.n){x:Nat}(hx:g.n<=x){f:Gra}(F:Good f){Z O b r B:Nat}(hn:bW g Z (ptrTo O) f)(C:r≠x)(x5:B≠x)(P: ∀v,IsD (seen f.arcs Arc.t Arc.s) b v (dOf (seen f.arcs Arc.t Arc.s) b v)){D vA vO:Value}(Q:hq.load r 0 1=some [ptrTo O])(R:hq.load B 0 1=some [D])(T:ay hq 1 eS D ((zM f.nodes).map (dOf (seen f.arcs Arc.t Arc.s) b)))(xD: ∀c,ar D c->c≠x):
 HoldA zB hq x 239 [ptrTo r,ptrTo B] f.arcs.length (j9 f b):=by
 intro h ok k nq a G;have kN:fC g h:=fun c s=>(k c (zO s N) (by omega)).trans (Y c s);have nN:g.n<=h.n:=Xc N nq;have e2:=me Q (k r (bJ j Q) C);have e5:=me R (k B (bJ j R) x5);have t:ay h 1 eS D _:=sl_get T (fun c s=>k c (T.lt j s) (xD c s));have S:=Si ok;have U:f.arcs[a]=f.arcs.getD a default:=by simp [Xb,G]
 have hm:f.arcs.getD a default∈f.arcs:=by rw [<-U];exact Xd G
 obtain⟨hs,ht,hw⟩:=F.arcs _ hm;unfold j9;have H:=P (f.arcs.getD a default).s;have I:=P (f.arcs.getD a default).t;generalize hd:dOf (seen f.arcs Arc.t Arc.s) b=d at H I t;refine aa (n:=35) (rs:=[.tmp 4]) rfl Tryz.e239 rfl rfl rfl (lbt rfl) ?_;simp only [BZ,e2,seval];refine step_ret (q7 S.ok (hn.keep E kN) G) ?_;rintro rv h4 ⟨g4,rfl⟩;replace S:=S.call g4;rw [U];generalize f.arcs.getD a default=A at hs ht hw H I;simp only [BZ,cE,seval];refine ac au S ?_;clear S;intro h u S V;simp only [BZ,seval];refine aw (S.store (i:=0) rfl ?_ ?_ rfl rfl ?_ ono) ?_
 . exact(by exact Tryz.t90.2.1)
 . exact(by intro x e;cases e)
 . exact lbt rfl
 clear S;rintro h ⟨S,mo⟩;clear mo;simp only [LC,ae,lay,Xr,Xs,seval]at S;have w:=t.gr S.gr;have lD:((zM f.nodes).map d).length=f.nodes:=by simp
 obtain⟨c1,o1,x1,J⟩:=w.ix (kd:=.i64) iC (i:=A.t) (by omega);obtain⟨c2,o2,C,W⟩:=w.ix (kd:=.i64) iC (i:=A.s) (by omega);simp only [List.getElem_map,List.getElem_range,eS]at J W;have K:=S.gr.load e5;have z6:=(S.row (b:=u) m0).lt S.ok;have z5:=bJ S.ok K;have zc:=bJ S.ok J;simp only [BZ,seval];refine av (ax rfl) (q:=0) (ps:=[]) (by kernel_rfl) ?_;simp only [BZ,cls,K,x1,J,S.ld (b:=u) (o:=1) m0 rfl,S.ld (b:=u) (o:=2) m0 rfl,seval];refine fh (add_ok S.ok) ?_;intro h7 p;have v6:=aP p z6;have v5:=aP p z5;have vc:=aP p zc;replace S:=S.call p;simp only [BZ,cls,seval];have ad:=FAR_eq;have b1:=H.le;have r:=I.le;have L:wy (wy (wy (d A.t:Nat))+wy (A.w:Nat))=(if d A.t+A.w<FAR then((d A.t+A.w:Nat):Int)else(FAR:Int)):=by
  unfold wy
  repeat' split
  all_goals omega
 rw [L];have y:=p.load K;have z:=p.load W;by_cases hf:d A.t+A.w<FAR
 . rw [if_pos hf];have w1:wy ((d A.t+A.w:Nat):Int)<72057594037927936:=(by unfold wy;omega);have M:decide (wy ((d A.t+A.w:Nat):Int)<72057594037927936)=true:=decide_eq_true w1;refine ah (yX S.ok) ?_;intro h8 l;replace S:=S.call l;rw [M];by_cases X:d A.s=A.w+d A.t
   . have m:((d A.t+A.w:Nat):Int)=(d A.s:Int):=(by omega);simp only [BZ,ab,l.load y,C,l.load z,m,S.ld (b:=u) (o:=0) m0 rfl,seval];exact⟨by rw [decide_eq_true ⟨by omega,by omega,X⟩],S.gr⟩
   . have m: ¬((d A.t+A.w:Nat):Int)=(d A.s:Int):=(by omega);simp only [BZ,ab,l.load y,C,l.load z,m,S.ld (b:=u) (o:=0) m0 rfl,seval];exact⟨by rw [decide_eq_false (fun h=>X h.2.2)],S.gr⟩
 . rw [if_neg hf];have M:decide (wy (FAR:Int)<72057594037927936)=false:=decide_eq_false (by unfold wy;omega);refine ah (yX S.ok) ?_;intro h8 l;replace S:=S.call l;rw [M];simp only [BZ,ab,seval];exact⟨by rw [decide_eq_false (fun h=>by omega)],S.gr⟩
theorem tells_ok{d a:Hp}(p:a.t.Sized a.n)(F:d.t.Sized d.n)(u:Gr a d){x:Nat}(G:a.n<=x)(H:x<d.n){f:Gra}(k:Good f){I w b:Nat}(y:bW a I (ptrTo w) f)(J:b<f.nodes):
 Ret zB 232 [ptrTo w,.int .i64 (b:Nat)] d fun r z=>Gr d z/\ ∃g j,r=.func (.func 239) #[] #[ptrTo g,ptrTo j]/\d.n<=g/\d.n<=j/\HoldA zB z x 239 [ptrTo g,ptrTo j] f.arcs.length (j9 f b):=by
 have S:=Si F;refine aa (n:=10) (rs:=[.tmp 4]) rfl Tryz.e232 rfl rfl rfl (lbt rfl) ?_;simp only [BZ,seval];refine ac (bR (by intro x e;cases e)) S ?_;clear S;intro h g S l;simp only [ae]at S;simp only [BZ,S.ld (b:=g) (o:=0) m0 rfl,seval];refine step_ret (sU S.ok k (y.gr (u.trans S.gr)) J) ?_;rintro r V ⟨K,W,vA,vO,D,X,O,rfl,q,L,M,_,A,N,_⟩;have Y:=S.fr.n;replace S:=S.call K;have P:=q.fl;have Q:=L.fl;have R:=M.fl;have B:D=dOf (seen f.arcs Arc.t Arc.s) b:=funext fun v=>((tg (A v)).1).symm;have s: ∀v,IsD (seen f.arcs Arc.t Arc.s) b v (dOf (seen f.arcs Arc.t Arc.s) b v):=fun v=>by rw [<-B];exact A v
 rw [B]at q;simp only [BZ];have T:=S.row (b:=g) m0;have Z:=S.fr.n;have m:=S.gr;have t:=S.ok;clear S;have S:=Si t;refine ac au S ?_;clear S;intro h j S C;simp only [BZ,seval];refine aw (S.store (i:=0) rfl Tryz.t218.2.1 (by intro x e;cases e) rfl (by simp only [ae,XE,XG,P.2.1,Q.2.1,R.2.1,Xi]) (lbt rfl) ono) ?_;clear S;rintro h3 ⟨S,_⟩;simp only [LC,ae,lay,Xr,Xs,seval]at S;simp only [BZ,ab,seval];refine⟨m.trans S.gr,g,j,rfl,l,by omega,?_⟩;have E:=u.trans (m.trans S.gr);exact tells1_ok p S.ok E.keep E.n G k y (by omega) (by omega) s (vA:=vA) (vO:=vO) ((T.gr S.gr).load1 (o:=0) rfl) (S.ld (b:=j) (o:=0) m0 rfl) (q.gr S.gr) (fun c U e=>by have:=N c (.inl U);omega)
theorem marked_ok{a:Hp}(i:a.t.Sized a.n){n:Nat}{f:Value}(j:Fl f):Ret zB 231 [.int .i64 (n:Nat),f] a fun v g=>Gr a g/\ ∃b c,v=.func (.func 238) #[] #[ptrTo b,ptrTo c]/\a.n<=b/\a.n<=c/\g.load b 0 1=some [.int .i64 (n:Nat)]/\g.load c 0 1=some [f]:=by have S:=Si i;refine aa (n:=6) (rs:=[.tmp 4]) rfl Tryz.e231 rfl rfl rfl (lbt rfl) ?_;simp only [BZ,seval];refine ac (di (by exact ca)) S ?_;clear S;intro h b S d;simp only [BZ,if_false,seval];refine ac (di (by assumption)) S ?_;clear S;intro h c S e;simp only [BZ,ab,seval];exact⟨S.gr,b,c,rfl,d,e,S.ld m1 rfl,S.ld m0 rfl⟩
theorem marked_it {hq b:Hp} (A:hq.t.Sized hq.n) (j:b.t.Sized b.n) (B:fC hq b) (u:hq.n<=b.n) {x:Nat} {N:Nat} (L:N<=1000) {k l:Nat} {g:FuncId} {post:Array Value} {f:Nat->Bool} (hf:HoldA zB hq x g post.toList N f)
 (C:b.load k 0 1=some [.int .i64 (N:Nat)]) (D:b.load l 0 1=some [.func (.func g) #[] post]):
 sS zB 238 [] [ptrTo k,ptrTo l] b (fun c=>c=k\/c=l\/(c<hq.n/\c≠x)) (((zM N).filter f).map fun(v:Nat)=>[.int .i64 (v:Nat)]):=by
 intro E J Z G Y h F s d;have y:=s.load j C (.inl rfl);refine enter (n:=19) (rs:=[]) rfl Tryz.e238 rfl rfl rfl (lbt rfl) ?_;simp only [BZ,y,seval];refine az (fun(i:Nat) e h=>i<=N/\ ∃F,ItS b (fun c=>c=k\/c=l\/(c<hq.n/\c≠x)) h F/\J ((zM i).filter f).length h F/\e 0=.func (.yield E) #[] #[]/\e 1=ptrTo k/\e 2=ptrTo l/\e 5=.int .i64 (N:Nat)/\e 6=.int .i64 i) (fun i=>N-i) ?_ 0 _ _ ?_
 . clear y s d F h;intro i z e h ⟨hi,F,s,d,r0,r1,r2,r5,r6⟩;have w:ag .i64 ((i:Int)+1)=((i+1:Nat):Int):=(by rw [wrap64]<;>omega);by_cases hlt:i<N
   . have H:=s.load j D (.inr (.inl rfl));simp only [BZ,r2,r5,r6,an,hlt,H,seval];refine ah (hf _ s.ok (fun c o p=>(s.data c (zO o u) (.inr (.inr ⟨o,p⟩))).trans (B c o)) (Xc u s.n) i hlt) ?_;intro M m;cases q:f i with
     | true=>
       have p:(((zM N).filter f).map fun(v:Nat)=>[Value.int .i64 (v:Nat)])[((zM i).filter f).length]? =some [.int .i64 (i:Nat)]:=(by rw [Xu,xa q _ hlt];rfl);have r:((zM (i+1)).filter f).length=((zM i).filter f).length+1:=(by rw [lO,if_pos q];simp);simp only [BZ,r0,seval];refine gz Y (s.gr m) (Y.gr _ _ _ _ d m) (i:=((zM i).filter f).length) p ?_ ?_ ?_
       . intro t I a K _ _;simp only [BZ,r6,w,seval];exact z (i+1) _ _ (by omega) ⟨by omega,I,K,by rw [r];exact a,by simp [am,r0,r1,al,r2,r5]⟩
       . intro t a _;simp only [BZ,seval];exact iL rfl ⟨rfl,.inr (.inl ⟨_,rfl,a⟩)⟩
       . intro v t a;exact absurd a (G v t)
     | false=>have r:(zM (i+1)).filter f=(zM i).filter f:=(by rw [lO,if_neg (by rw [q];decide)];simp);simp only [BZ,r6,w,seval];exact z (i+1) _ _ (by omega) ⟨by omega,F,s.gr m,by rw [r];exact Y.gr _ _ _ _ d m,by simp [am,r0,r1,al,r2,r5]⟩
   . simp only [BZ,r5,r6,an,hlt,seval];have:i=N:=(by omega);subst this;exact dl (cP ⟨rfl,_,rfl,rfl,.inl ⟨_,F,rfl,by simpa using d⟩⟩)
 . exact⟨Xf _,F,s,d,by simp [am,dy,al]⟩
def fV(n:Nat)(f:Nat->Bool):List Value:=(zM n).map fun j=>.bool (f j)
theorem bolC_len{n:Nat}{f:Nat->Bool}:(fV n f).length=n:=by simp [fV]
theorem bolC_at{n j:Nat}{f:Nat->Bool}(h:j<n):(fV n f)[j]? =some (.bool (f j)):=n9 (F:=fun j=>Value.bool (f j)) h
theorem bolC_set{n j:Nat}{f:Nat->Bool}:(fV n f).set j (.bool true)=fV n (fun u=>decide (u=j)||f u):=by have:=kD (N:=n) (k:=j) (F:=fun j=>Value.bool (f j)) (F':=fun u=>Value.bool (decide (u=j)||f u)) (fun i _ a=>by simp [a]);unfold fV;rw [<-this];simp
theorem pG{n:Nat}{f g:Nat->Bool}(h: ∀j,j<n->f j=g j):fV n f=fV n g:=by unfold fV;refine XJ fun j a=>?_;rw [h j (List.mem_range.1 a)]
theorem putB_ok{l:Hp}(G:l.t.Sized l.n){d n:Nat}{f:Nat->Bool}(R:Row l d (fV n f) 1){g:FuncId}{post:Array Value}{D:Nat->Prop}{xs:List Nat}(N:sS zB g [] post.toList l D (xs.map fun(v:Nat)=>[.int .i64 (v:Nat)]))(H: ¬D d)(C: ∀x∈xs,x<n)(hl:xs.length<=1000):
 Ret zB 230 [.slice (some ⟨d,0,none⟩) n n,.func (.func g) #[] post,.bool true] l fun r w=>Mo (· =d) l w/\r=.slice (some ⟨d,0,none⟩) n n/\Row w d (fV n (fun u=>decide (u∈xs)||f u)) 1:=by
 have S:=St.init1 G (o:=.row (fV n f) 1) R;have zl:=R.lt G;refine aa (n:=15) (rs:=[.tmp 6]) rfl Tryz.e230 rfl rfl rfl (lbt rfl) ?_;simp only [BZ,seval];refine ac (di (by exact ce)) S ?_;clear S;intro h p S I;simp only [BZ,if_false,seval];refine ac (di (by exact qh)) S ?_;clear S;intro h z S J;simp only [BZ,if_false,seval];have O:fV n f=fV n (fun u=>decide (u∈xs.take 0)||f u):=pG fun j _=>by simp
 refine js S (g:=g) (a:=#[]) (b:=post) (by simp [bZ,am,al]) rfl rfl ?_;intro K B A q P Q g2;obtain⟨X,M,q⟩: ∃X:gC,X=_/\St (· =d) l K [(A,.loop X),(B,.dfr),(z,.row [.bool true] 1),(p,.row [.slice (some ⟨d,0,none⟩) n n] 1),(d,.row (fV n f) 1)] []:=⟨_,rfl,q⟩;have V:Yld zB A (fun k w F=>St (· =d) l w [(A,.loop X),(B,.dfr),(z,.row [.bool true] 1),(p,.row [.slice (some ⟨d,0,none⟩) n n] 1),(d,.row (fV n (fun u=>decide (u∈xs.take k)||f u)) 1)] []/\k<=xs.length/\F=[A,B,z,p,d]) (fun _ _=>False) (xs.map fun(v:Nat)=>[.int .i64 (v:Nat)]):=by
  refine⟨?_,?_,fun _ _ h=>h.elim,?_⟩
  . rintro i h F ⟨S,_,rfl⟩;exact⟨S.ok,fun b m=>S.key_lt (by simpa [keys]using m)⟩
  . rintro i h F w ⟨S,a,rfl⟩ W;exact⟨S.call W,a,rfl⟩
  . rintro i x hR F E ⟨S,a,rfl⟩;have s:i<xs.length:=(by have:=(List.getElem?_eq_some_iff.1 E).1;simpa using this);rw [Xu,Xg s]at E;cases E;have t:=C _ (Xd s);have Y:fV n (fun u=>decide (u∈xs.take (i+1))||f u)=(fV n (fun u=>decide (u∈xs.take i)||f u)).set xs[i] (.bool true):=(by rw [bolC_set];refine pG fun j _=>?_;rw [Xa s];simp only [XH,Xt];by_cases Z:j=xs[i]<;>by_cases e2:j∈xs.take i<;>simp [Z,e2]);rw [Y];generalize xs[i]=x at t;subst M;refine ju (S.get m0) (by rw [Tryz.e230];rfl) rfl ?_;have S0:=S;replace S:=S.base;simp only [BZ,seval];refine iT S (i:=0) rfl rfl rfl rfl rfl ?_;clear S;intro h S;simp only [LC]at S;simp only [BZ,t,S.ld (b:=p) (o:=0) m3 rfl,S.ld (b:=z) (o:=0) m2 rfl,seval];refine aw (aq S (i:=4) rfl Tryz.t4.2.2.1 qh (by rw [bolC_len];exact t) ono) ?_;clear S;rintro h ⟨S,_⟩;simp only [LC]at S;simp only [BZ];refine fG S (i:=0) rfl ?_;clear S;intro h S;simp only [LC]at S;refine .inl ⟨rfl,_,⟨S0.rebase S,by omega,rfl⟩,?_,fun c hc=>.inl hc⟩;have:=S.fr;simp only [keys,XP,List.map_nil,List.filterMap_nil,XO]at this;exact this
 refine eQ (N A _ _ (fun _ _ h=>h) V K [A,B,z,p,d] ?_ ⟨by rw [<-O];exact q,Xf _,rfl⟩) fun o rc w y=>mm y ?_
 . have kn:=S.fr.n;refine⟨q.ok,q.fr.n,fun b m hd=>q.fr.get b m (fun e=>H (e▸hd)),fun b m h=>?_,fun b m=>q.key_lt (by simpa [keys]using m)⟩;simp only [XF,Xy,or_false]at m;rcases m with rfl|rfl|rfl|rfl|rfl
   . omega
   . omega
   . omega
   . omega
   . exact H h.2
 . rintro F ⟨T,_,rfl⟩;rw [XB,Xq]at T;subst M;refine⟨_,T.get m0,XI,?_⟩;replace T:=T.dead;have S:=T;show Run _ _ _ _ _ _ _ _;simp only [BZ,S.ld (b:=p) (o:=0) m2 rfl,seval];refine fS (gu [B] _ (L:=[(z,_),(p,_),(d,_)]) T.base fun h4 S4=>?_);refine⟨rfl,(rH (by decide)).2 (gR.2 ?_)⟩;have U:=T.rebase S4;exact⟨U.fr,rfl,U.row m2⟩
theorem anyT_ok {k:Hp} (M:k.t.Sized k.n) {d:Gra} (m:Good d) {N y b:Nat} {z:Value} {xs:List Nat} (A:bW k N (ptrTo y) d) (G:b<d.nodes) (B:ay k 1 eS z xs) (p:xs=[b]):
 Ret zB 203 [ptrTo y,z] k fun r H=>Gr k H/\ ∃f,r=.slice (some ⟨f,0,none⟩) d.arcs.length d.arcs.length/\Row H f (fV d.arcs.length (j9 d b)) 1/\k.n<=f:=by
 have S:=Si M;have I:=m.many;have fL:=B.fl;have hl:xs.length=1:=by rw [p];rfl
 refine aa (n:=32) (rs:=[.tmp 4]) rfl Tryz.e203 rfl rfl rfl (lbt rfl) ?_;simp only [BZ,seval];refine ah (mU S.ok A) ?_;intro h1 O;replace S:=S.call O;simp only [BZ,seval];have C:=S.gr;have q:=S.ok;clear S;have S:=Si q;rename Hp=>hA;refine ac (kC (by exact Tryz.t228.1) (by exact Tryz.e4E) (by omega) (by omega)) S ?_;clear S;intro h f S s;have P:aU [Value.bool false] d.arcs.length=fV d.arcs.length (fun a=>decide (0=1)&&j9 d b a):=by rw [lV];unfold fV;simp [List.map_const']
 rw [XL,P]at S;simp only [BZ,XL,B.lenq,seval];refine az (fun(i:Nat) l h=>i<=1/\St NoM hA h [(f,.row (fV d.arcs.length (fun a=>decide (i=1)&&j9 d b a)) 1)] []/\l 0=ptrTo y/\l 5=.slice (some ⟨f,0,none⟩) d.arcs.length d.arcs.length/\l 13=z/\l 14=.int .i64 (xs.length:Nat)/\l 15=.int .i64 i) (fun i=>1-i) ?_ 0 _ _ ?_
 . clear S;intro i Q l h ⟨hi,S,r0,r5,r13,r14,r15⟩;have w:ag .i64 ((i:Int)+1)=((i+1:Nat):Int):=(by rw [wrap64]<;>omega);have D:=C.trans S.gr;by_cases hlt:i<xs.length
   . have J:i=0:=(by omega);obtain⟨c,o,R,t⟩:=(B.gr D).ix (kd:=.i64) iC hlt;have T:xs[i]=b:=(by subst p;subst J;rfl);rw [T]at t;replace t:h.load c o 1=some [.int .i64 (b:Nat)]:=t;simp only [BZ,r0,r13,r14,r15,an,hlt,R,t,seval];refine ah (CL S.ok (A.gr D) G) ?_;intro h2 U;replace S:=S.call U;have hS:=S.gr;have E:=(S.row (b:=f) m0).lt S.ok;simp only [BZ,r0,r5,seval];refine step_ret (tells_ok q S.ok S.gr (x:=f) s E m (A.gr C) G) ?_;rintro v h3 ⟨K,V,W,rfl,n2,n5,hf⟩;replace S:=S.call K;have F:=S.ok;simp only [BZ,seval];refine step_ret (marked_ok S.ok (n:=d.arcs.length) iq) ?_;rintro v h4 ⟨g4,X,Y,rfl,n1,n3,Z,y3⟩;have it:=marked_it F g4.ok g4.keep g4.n (x:=f) (by omega) (g:=239) (post:=#[ptrTo V,ptrTo W]) hf Z y3;have kg:=K.n;replace S:=S.call g4;simp only [BZ,seval];refine step_ret (putB_ok S.ok (S.row (b:=f) m0) (g:=238) (post:=#[ptrTo X,ptrTo Y]) it (fun h=>?_) (fun x hx=>List.mem_range.1 (List.mem_filter.1 hx).1) (Xc xW (by omega))) ?_
     . rcases h with h|h|h
       . omega
       . omega
       . exact h.2 rfl
     . rintro v h5 ⟨f5,rfl,R5⟩;have L:=S.call1 (i:=0) (o':=.row _ 1) rfl f5 R5;simp only [List.set_cons_zero]at L;simp only [BZ,r15,w,seval];refine Q (i+1) _ _ (by omega) ⟨by omega,?_,by simp [am,r0,al,r13,r14]⟩;have e:fV d.arcs.length (fun a=>decide (i+1=1)&&j9 d b a)=fV d.arcs.length (fun u=>decide (u∈(zM d.arcs.length).filter (j9 d b))||(decide (i=1)&&j9 d b u)):=pG fun j hj=>(by subst J;simp [List.mem_filter,hj]);rw [e];exact L
   . have i1:i=1:=(by omega);simp only [BZ,ab,r5,r14,r15,an,hlt,seval];refine⟨D,f,rfl,?_,by have:=C.n;omega⟩;have e:fV d.arcs.length (j9 d b)=fV d.arcs.length (fun a=>decide (i=1)&&j9 d b a):=pG fun j _=>(by rw [decide_eq_true i1,Bool.true_and]);rw [e];exact S.row m0
 . exact⟨Xf _,S,by simp [am,dy,al]⟩
theorem arcsT_ok{c:Hp}(k:c.t.Sized c.n){a:Gra}(e:Good a){l g b:Nat}(m:bW c l (ptrTo g) a)(p:b<a.nodes):
 Ret zB 152 [ptrTo g,.int .i64 (b:Nat)] c fun r i=>Gr c i/\ ∃d,r=.slice (some ⟨d,0,none⟩) a.arcs.length a.arcs.length/\Row i d (fV a.arcs.length (j9 a b)) 1/\c.n<=d:=by
 have S:=Si k;refine aa (n:=9) (rs:=[.tmp 4]) rfl Tryz.e152 rfl rfl rfl (lbt rfl) ?_;simp only [BZ,seval];refine ac (bg (by exact Tryz.t38.1) (by exact Tryz.e3E) (by decide) (by rfl)) S ?_;clear S;intro h f S j;simp only [LC,aU,bD,ae,Xl,Xj,Xk,Xo,seval]at S;simp only [BZ,seval];have q:ay h 1 eS (.slice (some ⟨f,0,none⟩) 1 1) [b]:=.inr ⟨f,0,none,1,rfl,XD _,S.lds (b:=f) (o:=0) (n:=1*1) m0 (lbt rfl)⟩;have t:=S.fr.n;refine step_ret (anyT_ok S.ok e (m.gr S.gr) p q rfl) ?_;rintro r u ⟨s,d,rfl,R,v⟩;replace S:=S.call s;simp only [BZ,ab,seval];exact⟨S.gr,d,rfl,R,by omega⟩
end Go.Ab
end
section
namespace Go.Ab
open Go.Proofs
set_option maxRecDepth 10000
def Own(B:Nat->Prop)(a h:Hp)(F:List Nat):Prop:=a.n<=h.n/\ ∀b,B b->b<a.n/\b∉F/\h.get b=a.get b
theorem Own.gr{B:Nat->Prop}{c h d:Hp}{F:List Nat}(o:Own B c h F)(g:Gr h d):Own B c d F:=
 ⟨Xc o.1 g.n,fun b a=>⟨(o.2 b a).1,(o.2 b a).2.1,(g.get b (zO (o.2 b a).1 o.1)).trans (o.2 b a).2.2⟩⟩
theorem Own.mo{B:Nat->Prop}{a h c:Hp}{F F':List Nat}(o:Own B a h F)(m:Mo (· ∈F) h c)(f: ∀b∈F',b∈F\/h.n<=b):Own B a c F':=
 ⟨Xc o.1 m.n,fun b g=>by
  obtain⟨d,e,i⟩:=o.2 b g;have hlt:=zO d o.1;exact⟨d,fun j=>(f b j).elim e (fun h=>by omega),(m.get b hlt e).trans i⟩⟩
section
variable{γ:Gra}{nb mb bp k:Nat}{p:Value}{m:List Int}{c:Nat->Nat}
theorem won_ok{d j:Hp}{D:Nat->Prop}(x:d.t.Sized d.n){M:Nat}{J:Nat->Hp->List Nat->Prop}{Z:Out->Hp->Prop}{xs:List (List Value)}(y:Good γ)(P: ∀v h,¬Z (.pan v) h)(Y:Yld zB M J Z xs){B:Nat->Prop}{b z:Nat}(A:B b)(Q:j.load b 0 1=some [.func (.yield M) #[] #[]])(R:D z)(S:d.load z 0 1=some [ptrTo bp])(l: ∀h F,ItS d D h F->bW h nb (ptrTo bp) γ)
 {g:FuncId} {post:Array Value} {f:Nat->Bool} (C: ∀h F,ItS d D h F->Own B j h F-> ∀a,a<γ.arcs.length->bG zB g ([.int .i64 (a:Nat)]++post.toList) h (.bool (f a))) {q:Nat} (T: ∀a,a<γ.arcs.length->f a=true->xs[q+((zM a).filter f).length]? =some [.int .i64 (a:Nat)]) {h:Hp} {F:List Nat} (s:ItS d D h F) (o:Own B j h F) (r:J q h F):
 Ret zB 148 [.func (.func g) #[] post,ptrTo z,ptrTo b] h fun v u=>(v=.bool true/\ ∃F',ItS d D u F'/\Own B j u F'/\J (q+((zM γ.arcs.length).filter f).length) u F')\/(v=.bool false/\Z (.ret (.bool false)) u):=by
 have N:=y.many;have U:=s.load x S R;refine aa (n:=21) (rs:=[.tmp 4]) rfl Tryz.e148 rfl rfl rfl (lbt rfl) ?_;simp only [BZ,U,seval];refine ah (mU s.ok (l _ _ s)) ?_;intro X E;simp only [BZ];refine az (fun(i:Nat) t h=>i<=γ.arcs.length/\ ∃F,ItS d D h F/\Own B j h F/\J (q+((zM i).filter f).length) h F/\t 0=.func (.func g) #[] post/\t 2=ptrTo b/\t 7=.int .i64 (γ.arcs.length:Nat)/\t 8=.int .i64 i) (fun i=>γ.arcs.length-i) ?_ 0 _ _ ?_
 . intro i O t h ⟨hi,F,s,o,r,r0,r2,r7,r8⟩;have w:ag .i64 ((i:Int)+1)=((i+1:Nat):Int):=(by rw [wrap64]<;>omega);by_cases hlt:i<γ.arcs.length
   . simp only [BZ,r0,r7,r8,an,hlt,seval];refine ah (C _ _ s o i hlt) ?_;intro h2 e;have G:=me Q ((o.gr e).2 b A).2.2;cases H:f i with
     | true=>
       have I:((zM (i+1)).filter f).length=((zM i).filter f).length+1:=(by rw [lO,if_pos H];simp);simp only [BZ,r2,G,seval];refine gz Y (s.gr e) (Y.gr _ _ _ _ r e) (i:=q+((zM i).filter f).length) (T i hlt H) ?_ ?_ ?_
       . intro K V a W m3 L;simp only [BZ,r8,w,seval];exact O (i+1) _ _ (by omega) ⟨by omega,V,W,(o.gr e).mo m3 L,by rw [I];exact a,by simp [am,r0,r2,al,r7]⟩
       . intro K a _;simp only [BZ,ab,seval];exact .inr a
       . intro v K a;exact absurd a (P v K)
     | false=>have I:(zM (i+1)).filter f=(zM i).filter f:=(by rw [lO,if_neg (by rw [H];decide)];simp);simp only [BZ,r8,w,seval];exact O (i+1) _ _ (by omega) ⟨by omega,F,s.gr e,o.gr e,by rw [I];exact Y.gr _ _ _ _ r e,by simp [am,r0,r2,al,r7]⟩
   . have:i=γ.arcs.length:=(by omega);subst this;simp only [BZ,ab,r7,r8,an,hlt,seval];exact .inl ⟨F,s,o,r⟩
 . exact⟨Xf _,F,s.gr E,o.gr E,Y.gr _ _ _ _ r E,by simp [am,dy,al]⟩
theorem worth_ok{a:Hp}(l:a.t.Sized a.n)(o:Fl p):Ret zB 86 [ptrTo bp,p,.int .i64 (k:Nat)] a fun v j=>Gr a j/\ ∃b d e,v=.func (.func 147) #[] #[ptrTo b,ptrTo d,ptrTo e]/\a.n<=b/\a.n<=d/\a.n<=e/\j.load b 0 1=some [ptrTo bp]/\j.load d 0 1=some [p]/\j.load e 0 1=some [.int .i64 (k:Nat)]:=by have S:=Si l;refine aa (n:=8) (rs:=[.tmp 6]) rfl Tryz.e86 rfl rfl rfl (lbt rfl) ?_;simp only [BZ,seval];refine ac (di (by exact cS)) S ?_;clear S;intro h b S f;simp only [BZ,if_false,seval];refine ac (di (by assumption)) S ?_;clear S;intro h d S g;simp only [BZ,if_false,seval];refine ac (di (by exact ca)) S ?_;clear S;intro h e S i;simp only [BZ,ab,seval];exact⟨S.gr,b,d,e,rfl,f,g,i,S.ld m2 rfl,S.ld m1 rfl,S.ld m0 rfl⟩
def insB(γ:Gra)(c:Nat->Nat)(k a:Nat):Bool:=decide (c (γ.arcs.getD a default).s=k/\c (γ.arcs.getD a default).t=k)
theorem worth2_ok{h:Hp}(g:h.t.Sized h.n)(b:Good γ)(i:bW h nb (ptrTo bp) γ)(x:jc h mb p γ.nodes m c){d e f:Nat}(j:h.load d 0 1=some [ptrTo bp])(l:h.load e 0 1=some [p])(o:h.load f 0 1=some [.int .i64 (k:Nat)]){a:Nat}(q:a<γ.arcs.length):
 bG zB 149 ([.int .i64 (a:Nat)]++[ptrTo d,ptrTo e,ptrTo f]) h (.bool (insB γ c k a)):=by
 refine aa (n:=11) (rs:=[.tmp 5]) rfl Tryz.e149 rfl rfl rfl (lbt rfl) ?_;simp only [BZ,j,l,o,seval];refine ah (inside_ok (N:=0) g b i x q) ?_;intro s r;simp only [BZ,ab,seval];exact⟨rfl,r⟩
theorem worth3_ok{h:Hp}(g:h.t.Sized h.n){b d n:Nat}{f:Nat->Bool}(i:h.load b 0 1=some [.slice (some ⟨d,0,none⟩) n n])(R:Row h d (fV n f) 1){a:Nat}(e:a<n):
 bG zB 153 ([.int .i64 (a:Nat)]++[ptrTo b]) h (.bool (f a)):=by
 have S:=Si g;have j:=R.load1 (bolC_at (f:=f) e);have l:(a:Int)<(n:Int):=by omega
 refine aa (n:=14) (rs:=[.tmp 3]) rfl Tryz.e153 rfl rfl rfl (lbt rfl) ?_;simp only [BZ,ab,i,l,e,j,seval];exact S.gr
theorem flat_at{a β:Type}{f:a->List β}{l:List a}{j q:Nat}{x:β}(b:j<l.length)(h:(f l[j])[q]? =some x):(l.flatMap f)[((l.take j).flatMap f).length+q]? =some x:=by
 have e:l=l.take j++l[j]::l.drop (j+1):=by rw [<-List.drop_eq_getElem_cons b,List.take_append_drop]
 conv=>lhs;rw [e]
 rw [Xm,Xe,Xw (by simp)];have d:=(List.getElem?_eq_some_iff.1 h).1;have g:(Xr j l++l[j]::Xs (j+1) l).take j=l.take j:=by rw [<-e]
 rw [g,XN,Xx d];exact h
noncomputable def qm(γ:Gra)(b:Nat):List Nat:=(zM γ.arcs.length).filter (j9 γ b)
noncomputable def eG(γ:Gra)(c:Nat->Nat)(k:Nat):List Nat:=(zM γ.arcs.length).filter (insB γ c k)++((zM γ.nodes).filter (borB γ c k)).flatMap (qm γ)
theorem worth1_it {hq z:Hp} (O:hq.t.Sized hq.n) (t:z.t.Sized z.n) (kq:fC hq z) (nq:hq.n<=z.n) (y:Good γ) (hn:bW hq nb (ptrTo bp) γ) (x:jc hq mb p γ.nodes m c) {A D E:Nat} (P:z.load A 0 1=some [ptrTo bp]) (e4:z.load D 0 1=some [p]) (e5:z.load E 0 1=some [.int .i64 (k:Nat)]):
 sS zB 147 [] [ptrTo A,ptrTo D,ptrTo E] z (fun c=>c=A\/c=D\/c=E\/c<hq.n) ((eG γ c k).map fun(a:Nat)=>[.int .i64 (a:Nat)]):=by
 intro lb J Z hz Y h F s Q;have n2:=y.n2;have fp:Fl p:=by obtain⟨b,_,rfl,_⟩:=x.at0;exact cS
 have kN: ∀h F,ItS z (fun c=>c=A\/c=D\/c=E\/c<hq.n) h F->fC hq h:=fun h F s=>s.keep kq nq (fun c hc=>.inr (.inr (.inr hc)));have u: ∀h F,ItS z (fun c=>c=A\/c=D\/c=E\/c<hq.n) h F->bW h nb (ptrTo bp) γ:=fun h F s=>hn.keep O (kN h F s);have G: ∀h F,ItS z (fun c=>c=A\/c=D\/c=E\/c<hq.n) h F->jc h mb p γ.nodes m c:=fun h F s=>x.keep O (kN h F s);have ad: ∀a,a<γ.arcs.length->insB γ c k a=true->((eG γ c k).map fun(a:Nat)=>[Value.int .i64 (a:Nat)])[0+((zM a).filter (insB γ c k)).length]? =some [.int .i64 (a:Nat)]:=fun a I q=>by have V:=xa q _ I;unfold eG;rw [Xj,Xu,Xx (List.getElem?_eq_some_iff.1 V).1,V];rfl
 have S:=Si s.ok;refine enter (n:=31) (rs:=[]) rfl Tryz.e147 rfl rfl rfl (lbt rfl) ?_;simp only [BZ,seval];refine ac (di (by exact iq)) S ?_;clear S;intro h l S af;have s1:=s.gr S.gr;have j1:=Y.gr _ _ _ _ Q S.gr;have zy:=(S.row (b:=l) m0).lt S.ok;have ly:=S.ld (b:=l) (o:=0) m0 rfl;have o1:Own (· =l) _ _ F:=⟨XD _,fun b q=>⟨by subst q;exact zy,fun H=>by subst q;have:=s.lt _ H;omega,rfl⟩⟩;simp only [BZ,seval];refine step_ret (won_ok t y hz Y (B:=(· =l)) rfl ly (.inl rfl) P u (g:=149) (post:=#[ptrTo A,ptrTo D,ptrTo E]) (f:=insB γ c k) (fun h F s _ a I=>worth2_ok s.ok y (u _ _ s) (G _ _ s) (s.load t P (.inl rfl)) (s.load t e4 (.inr (.inl rfl))) (s.load t e5 (.inr (.inr (.inl rfl)))) I) ad s1 o1 j1) ?_;rintro v h2 (⟨rfl,F2,C,o2,j2⟩|⟨rfl,z2⟩)
 . simp only [BZ,C.load t P (.inl rfl),C.load t e4 (.inr (.inl rfl)),C.load t e5 (.inr (.inr (.inl rfl))),seval];refine step_ret (border_ok C.ok y (u _ _ C) (G _ _ C) (k:=k)) ?_;rintro M R ⟨gB,W,nB⟩;have sA:=C.gr gB;have jA:=Y.gr _ _ _ _ j2 gB;have X:=o2.gr gB;have lB:R.load l 0 1=some [.func (.yield lb) #[] #[]]:=me ly (X.2 l rfl).2.2;have ai:l<R.n:=zO zy X.1;have oB:Own (fun c=>c=l\/ar M c) R R F2:=⟨XD _,fun b q=>⟨q.elim (fun e=>by subst e;exact ai) (fun h=>W.lt sA.ok h),fun H=>q.elim (fun e=>(X.2 b e).2.1 H) (fun h=>by have:=nB b h;have:=C.lt b H;omega),rfl⟩⟩;generalize hL:(zM γ.nodes).filter (borB γ c k)=L at W;have ak: ∀b∈L,b<γ.nodes:=fun b q=>(by rw [<-hL]at q;exact List.mem_range.1 (List.mem_filter.1 q).1);have a0:L.length<=γ.nodes:=(by rw [<-hL];exact xW);simp only [BZ,W.lenq,seval];refine az (fun(j:Nat) N h=>j<=L.length/\ ∃F,ItS z (fun c=>c=A\/c=D\/c=E\/c<hq.n) h F/\Own (fun c=>c=l\/ar M c) R h F/\J (((zM γ.arcs.length).filter (insB γ c k)).length+((L.take j).flatMap (qm γ)).length) h F/\N 1=ptrTo A/\N 5=.func (.func 148) #[] #[ptrTo A,ptrTo l]/\N 17=M/\N 18=.int .i64 (L.length:Nat)/\N 19=.int .i64 j) (fun j=>L.length-j) ?_ 0 _ _ ?_
   . clear S s1 j1 o1 C j2 o2 sA jA X oB;intro j ih N h ⟨hj',F,s,o,Q,r1,r5,r17,r18,r19⟩;have w:ag .i64 ((j:Int)+1)=((j+1:Nat):Int):=(by rw [wrap64]<;>omega);by_cases hlt:j<L.length
     . have q:=ak _ (Xd hlt);have sl:ay h 1 eS M L:=sl_get W (fun c hc=>(o.2 c (.inr hc)).2.2);obtain⟨d,oo,x0,y0⟩:=sl.ix (kd:=.i64) iC hlt;have T: ∀a,a<γ.arcs.length->j9 γ L[j] a=true->((eG γ c k).map fun(a:Nat)=>[Value.int .i64 (a:Nat)])[((zM γ.arcs.length).filter (insB γ c k)).length+((L.take j).flatMap (qm γ)).length+((zM a).filter (j9 γ L[j])).length]? =some [.int .i64 (a:Nat)]:=fun a I q=>(by have V:(qm γ L[j])[((zM a).filter (j9 γ L[j])).length]? =some a:=xa q _ I;unfold eG;rw [hL,Xu,Nat.add_assoc,Xw (by omega),XN,flat_at hlt V];rfl);have tk:((L.take (j+1)).flatMap (qm γ)).length=((L.take j).flatMap (qm γ)).length+((zM γ.arcs.length).filter (j9 γ L[j])).length:=(by rw [Xa hlt,Xm,Xh];simp [qm]);generalize L[j]=b at q y0 T tk;replace y0:h.load d oo 1=some [.int .i64 (b:Nat)]:=y0;simp only [BZ,r1,r17,r18,r19,an,hlt,x0,y0,s.load t P (.inl rfl),seval];refine step_ret (arcsT_ok s.ok y (u _ _ s) q) ?_;rintro r h4 ⟨g4,bl,rfl,R4,nl⟩;have S:=Si g4.ok;simp only [BZ];refine ac au S ?_;clear S;intro h U S aL;simp only [BZ,seval];refine aw (aq S (i:=0) rfl Tryz.t228.2.2.1 ce (Xp (lbt rfl)) ono) ?_;clear S;rintro h5 ⟨S,_⟩;simp only [LC]at S;have g5:=g4.trans S.gr;have s5:=s.gr g5;have j5:=Y.gr _ _ _ _ Q g5;have K:=o.gr g5;have R8:=S.row (b:=U) m0;have Rl:=R4.gr S.gr;have k4:=g4.n;have oC:Own (fun c=>(c=l\/ar M c)\/c=U\/c=bl) h5 h5 F:=⟨XD _,fun b q=>by
        rcases q with q|rfl|rfl
        . exact⟨zO (K.2 b q).1 K.1,(K.2 b q).2.1,rfl⟩
        . exact⟨R8.lt S.ok,fun H=>by have:=s.lt _ H;omega,rfl⟩
        . exact⟨Rl.lt S.ok,fun H=>by have:=s.lt _ H;omega,rfl⟩⟩
       have l5:h5.load l 0 1=some [.func (.yield lb) #[] #[]]:=me lB (K.2 l (.inl rfl)).2.2;simp only [BZ,r5,seval];refine step_ret (won_ok t y hz Y (B:=fun c=>(c=l\/ar M c)\/c=U\/c=bl) (.inl (.inl rfl)) l5 (.inl rfl) P u (g:=153) (post:=#[ptrTo U]) (f:=j9 γ b) (fun h F s o a I=>worth3_ok s.ok (me (R8.load1 (o:=0) rfl) (o.2 U (.inr (.inl rfl))).2.2) (Row.of_get (o.2 bl (.inr (.inr rfl))).2.2 Rl) I) T s5 oC j5) ?_;rintro v h6 (⟨rfl,F6,s6,o6,j6⟩|⟨rfl,z6⟩)
       . simp only [BZ,r19,w,seval];refine ih (j+1) _ _ (by omega) ⟨by omega,F6,s6,⟨Xc K.1 o6.1,fun b q=>⟨(K.2 b q).1,(o6.2 b (.inl q)).2.1,(o6.2 b (.inl q)).2.2.trans (K.2 b q).2.2⟩⟩,by rw [tk,<-Nat.add_assoc];exact j6,by simp [am,r1,al,r5,r17,r18]⟩
       . simp only [BZ,seval];exact iL rfl ⟨rfl,.inr (.inl ⟨_,rfl,z6⟩)⟩
     . have:j=L.length:=(by omega);subst this;simp only [BZ,r18,r19,an,hlt,seval];refine dl (cP ⟨rfl,_,rfl,rfl,.inl ⟨_,F,rfl,?_⟩⟩);rw [Xq]at Q;rw [XB];unfold eG;rw [Xh,hL];exact Q
   . exact⟨Xf _,F2,sA,oB,by simpa using jA,by simp [am,dy,al]⟩
 . simp only [BZ,seval];exact iL rfl ⟨rfl,.inr (.inl ⟨_,rfl,z2⟩)⟩
end
end Go.Ab

end
section
namespace Go.Ab
open Go.Proofs
set_option maxRecDepth 10000
def OkB(e:Gra)(c:Nat->Nat)(b k i:Nat)(B:Nat->Nat):Prop:= ∀d a,a/8<b->(bitB B b d a=true↔(d<k/\a∈eG e c d)\/(d=k/\a∈(eG e c k).take i))
theorem OkB.zero{d:Gra}{c:Nat->Nat}{b:Nat}:OkB d c b 0 0 (fun _=>0):=fun e a _=>by simp [bitB]
theorem OkB.next{f:Gra}{c:Nat->Nat}{b k:Nat}{B:Nat->Nat}(o:OkB f c b k (eG f c k).length B):OkB f c b (k+1) 0 B:=fun g a h=>by
 rw [o g a h,Xq];simp only [List.take_zero,Xy,and_false,or_false];constructor
 . rintro(⟨i,d⟩|⟨rfl,d⟩)
   . exact⟨by omega,d⟩
   . exact⟨by omega,d⟩
 . rintro⟨i,d⟩;by_cases e:g=k
   . subst e;exact .inr ⟨rfl,d⟩
   . exact .inl ⟨by omega,d⟩
theorem OkB.set{d:Gra}{c:Nat->Nat}{b k i:Nat}{B:Nat->Nat}(n:b=(d.arcs.length+7)/8)(o:OkB d c b k i B)(l:i<(eG d c k).length)(hlt:(eG d c k)[i]<d.arcs.length):OkB d c b k (i+1) (gK B (k*b+(eG d c k)[i]/8) (setB (B (k*b+(eG d c k)[i]/8)) ((eG d c k)[i]%8))):=fun j a m=>by
 rw [BB (by omega) (by omega),Xa l];by_cases e:j=k/\a=(eG d c k)[i]
 . rw [if_pos e];obtain⟨rfl,e⟩:=e;subst e;exact⟨fun _=>.inr ⟨rfl,List.mem_append.2 (.inr (List.mem_singleton.2 rfl))⟩,fun _=>rfl⟩
 . rw [if_neg e,o j a m];simp only [XH,Xt];constructor
   . rintro(h|⟨g,f⟩)
     . exact .inl h
     . exact .inr ⟨g,.inl f⟩
   . rintro(h|⟨g,f|f⟩)
     . exact .inl h
     . exact .inr ⟨g,f⟩
     . exact absurd ⟨g,f⟩ e
theorem zG{d:Gra}{c:Nat->Nat}{k a:Nat}(h:a∈eG d c k):a<d.arcs.length:=by
 unfold eG at h;rcases List.mem_append.1 h with h|h
 . exact List.mem_range.1 (List.mem_filter.1 h).1
 . obtain⟨b,_,h⟩:=List.mem_flatMap.1 h;exact List.mem_range.1 (List.mem_filter.1 h).1
theorem perm_db{c:Type}{x a b d:c}{l:List c}:List.Perm (x::([a,b]++(d::l))) ([d,x,a,b]++l):=by show List.Perm ([x,a,b]++d::l) (d::([x,a,b]++l));exact List.perm_middle
theorem yG{L:List (Nat×Ob)}{a:List Nat}:keys (L++dq a) []=L.map Prod.fst++a:=by simp [keys,dq,XM]
theorem ofB_ok {z:Hp} (ok:z.t.Sized z.n) {q:Gra} {nb mb bp cb:Nat} {m:List Int} {c:Nat->Nat} {M:Nat} (E:Good q) (hn:bW z nb (ptrTo bp) q) (x:jc z mb (ptrTo cb) q.nodes m c) (hM:hU m+1=(M:Int)) (U:M<=100):
 Ret zB 27 [ptrTo bp,ptrTo cb] z fun r P=>Gr z P/\ ∃t f B,r=ptrTo t/\z.n<=t/\z.n<=f/\t≠f/\iz P t f M q.arcs.length ((q.arcs.length+7)/8) B/\OkB q c ((q.arcs.length+7)/8) M 0 B:=by
 have S:=Si ok;have n1:=E.n1;have n2:=E.n2;have ak:=E.many;have xl:=x.len;have co: ∀{h},Gr z h->my h (ptrTo cb) m (M:Int):=fun g=>.inr ⟨⟨_,(x.gr g).at0⟩,by rw [hM]⟩;refine aa (n:=33) (rs:=[.tmp 4]) rfl Tryz.e27 rfl rfl rfl (lbt rfl) ?_;simp only [BZ,seval];refine ah (AY S.ok hn (co S.gr) n1 (by omega)) ?_;intro h1 g1;replace S:=S.call g1;simp only [BZ,xl,seval];refine ah (uj S.ok (co S.gr)) ?_;intro Q V;replace S:=S.call V;simp only [BZ,seval];refine ah (mU S.ok (hn.gr S.gr)) ?_;intro h3 g3;replace S:=S.call g3;simp only [BZ,seval];refine step_ret (zY S.ok U (by omega)) ?_;rintro r A ⟨W,t,f,rfl,nf,a1,I,Y⟩;have k3:=S.gr.n;have a2:=S.ok;have gq:=S.gr.trans W;have kN:=W.n;have gS:=S.gr;clear S;have S:St (· =f) A A [(f,.row _ 1)] []:=St.init1 W.ok (o:=.row _ 1) Y.b;have zf:=Y.b.lt W.ok;have zp:=Y.r.lt W.ok;simp only [BZ];refine ac au S ?_;clear S;intro h u S aL;simp only [BZ,seval];refine aw (aq S (i:=0) rfl ?_ ?_ ?_ ono) ?_
 . exact(by simp only [XR])
 . exact(by exact cS)
 . exact Xp (lbt rfl)
 clear S;rintro h ⟨S,mo⟩;clear mo;simp only [LC,ae,lay,Xr,Xs,seval]at S;simp only [BZ,seval];have gO: ∀{h:Hp} {L:List (Nat×Ob)} {G:List GL},St (· =f) A h L G->Gr z h:=fun S=>(gq.fr.trans S.fr (fun b e=>.inr (by subst e;omega)):Mo NoM _ _).gr;have kO: ∀{h:Hp} {L:List (Nat×Ob)} {G:List GL},St (· =f) A h L G->iz A t f M q.arcs.length ((q.arcs.length+7)/8) (fun _=>0)->Row h t [.int .i64 M,.int .i64 q.arcs.length,.int .i64 ((q.arcs.length+7)/8:Nat),.slice (some ⟨f,0,none⟩) (M*((q.arcs.length+7)/8)) (M*((q.arcs.length+7)/8))] 1:=fun S b=>Row.of_get (S.fr.get t zp I) b.r;have hr:=fun {h:Hp} {L:List (Nat×Ob)} {G:List GL} (S:St (· =f) A h L G)=>kO S Y;refine ah (uj S.ok (co (gO S))) ?_;intro h4 g4;replace S:=S.call g4;simp only [BZ];generalize C:(q.arcs.length+7)/8=l at*
 refine rb (fun(k:Nat) R d h=>k<=M/\ ∃p B,d=p.map qS/\St (· =f) A h ([(u,.row [ptrTo t] 1),(f,.row (gp (M*l) B) 1)]++dq p) []/\(∀j,B j<256)/\OkB q c l k 0 B/\R 0=ptrTo bp/\R 1=ptrTo cb/\R 5=ptrTo u/\R 18=.int .i64 (M:Nat)/\R 19=.int .i64 k) (fun k=>M-k) ?_ 0 _ _ _ ?_
 . clear S g4;rintro k ih R d h ⟨hk,p,B,rfl,S,hB,oB,r0,r1,r5,r18,r19⟩;have w:ag .i64 ((k:Int)+1)=((k+1:Nat):Int):=(by rw [wrap64]<;>omega);by_cases hlt:k<M
   . simp only [BZ,r18,r19,an,hlt,seval];refine ac au S ?_;clear S;intro h D S a0;simp only [BZ,seval];refine aw (aq S (i:=0) rfl ?_ ?_ ?_ ono) ?_
     . exact(by simp only [XR])
     . exact(by exact ca)
     . exact Xp (lbt rfl)
     clear S;rintro h ⟨S,mo⟩;clear mo;simp only [LC,ae,lay,Xr,Xs,seval]at S;simp only [BZ,r0,r1,S.ld (b:=D) (o:=0) m0 rfl,seval];refine step_ret (worth_ok S.ok (k:=k) cS) ?_;rintro v hW ⟨gW,w3,w4,w5,rfl,n3,n4,n5,e3,e4,e5⟩;have kk: ∀b∈[D,u,f]++p,z.n<=b/\b<w3/\b<w4/\b<w5/\b<hW.n:=fun b s=>(by have hm:b∈keys ([(D,Ob.row [.int .i64 (k:Nat)] 1),(u,.row [ptrTo t] 1),(f,.row (gp (M*l) B) 1)]++dq p) []:=(by rw [yG];exact s);have h1:=S.key_lt hm;have Q:=S.key_own hm;have h3:=gW.n;have h4:z.n<=b:=Q.elim (fun h=>by omega) (fun h=>by subst h;omega);omega);replace S:=S.call gW;have a3:=gW.n;have Z:=gO S;have zN:=S.fr.n;have it:=worth1_it ok S.ok Z.keep Z.n E hn x e3 e4 e5;simp only [BZ];refine js S (g:=147) (a:=#[]) (b:=#[ptrTo w3,ptrTo w4,ptrTo w5]) (by simp [bZ,am,al]) rfl rfl ?_;intro Q H J S' a4 a5 V;obtain⟨X,hX,S'⟩: ∃X:gC,X=_/\St (· =f) A Q ([(J,.loop X),(H,.dfr),(D,.row [.int .i64 (k:Nat)] 1),(u,.row [ptrTo t] 1),(f,.row (gp (M*l) B) 1)]++dq p) []:=⟨_,rfl,S'⟩;have hJ:Yld zB J (fun i P F=> ∃B,St (· =f) A P ([(J,.loop X),(H,.dfr),(D,.row [.int .i64 (k:Nat)] 1),(u,.row [ptrTo t] 1),(f,.row (gp (M*l) B) 1)]++dq p) []/\(∀j,B j<256)/\OkB q c l k i B/\F=[J,H,D,u,f]++p) (fun _ _=>False) ((eG q c k).map fun(a:Nat)=>[.int .i64 (a:Nat)]):=by
      refine⟨?_,?_,fun _ _ h=>h.elim,?_⟩
      . rintro i h F ⟨B,S,_,_,rfl⟩;exact⟨S.ok,fun b s=>S.key_lt (by rw [yG];exact s)⟩
      . rintro i h F P ⟨B,S,a,b,rfl⟩ gg;exact⟨B,S.call gg,a,b,rfl⟩
      . rintro i x hR F K ⟨B,S,hB,oB,rfl⟩;have N:i<(eG q c k).length:=(by have:=(List.getElem?_eq_some_iff.1 K).1;simpa using this);rw [Xu,Xg N]at K;cases K;have O:(eG q c k)[i]<q.arcs.length:=zG (Xd N);have ad:=oB.set C.symm N O;generalize(eG q c k)[i]=a at O ad;subst hX;refine ju (S.get m0) (by rw [Tryz.e27];rfl) rfl ?_;have S0:=S;replace S:=S.base;simp only [BZ,seval];refine iT S (i:=0) rfl rfl rfl rfl rfl ?_;clear S;intro h S;simp only [LC]at S;simp only [BZ,r5,S.ld (b:=D) (o:=0) m2 rfl,S.ld (b:=u) (o:=0) m3 rfl,seval];have BA:iz h t f M q.arcs.length l B:=⟨hr (S0.rebase S),S.row (b:=f) m4,hB⟩;refine step_ret (bSet_ok S.ok BA I hlt O U (by omega) C.symm) ?_;rintro v h5 ⟨f5,rfl,B5⟩;have S5:=S.call1 (i:=4) (o':=.row _ 1) rfl f5 B5.b;simp only [List.set_cons_zero,List.set_cons_succ]at S5;clear S;simp only [BZ];refine fG S5 (i:=0) rfl ?_;clear S5;intro h S;simp only [LC]at S;refine .inl ⟨rfl,_,⟨_,S0.rebase S,B5.lt,ad,rfl⟩,?_,fun c hc=>.inl hc⟩;exact S.fr.mono fun b s=>by simpa [keys,dq,XM]using s
     refine eQ (it J _ _ (fun _ _ h=>h) hJ Q ([J,H,D,u,f]++p) ?_ ⟨B,S',hB,oB,rfl⟩) fun o rc P y=>mm y ?_
     . have kn:=V.n;refine⟨S'.ok,V.n,fun b s hd=>V.get b s,fun b s h=>?_,fun b s=>S'.key_lt (by simpa [keys,dq,XM]using s)⟩;simp only [XH,XF,Xy,or_false]at s;obtain⟨h1,Q⟩:=h;have K:b=J\/b=H\/b∈[D,u,f]++p:=by
        rcases s with(s|s|s)|s
        . exact .inl s
        . exact .inr (.inl s)
        . exact .inr (.inr (List.mem_append.2 (.inl (by simpa using s))))
        . exact .inr (.inr (List.mem_append.2 (.inr s)))
       rcases K with rfl|rfl|K
       . omega
       . omega
       . have:=kk b K;omega
     . rintro F ⟨B1,T,ai,af,rfl⟩;rw [XB]at af;subst hX;refine⟨_,T.get m0,XI,?_⟩;replace T:=T.dead;show Run _ _ _ _ _ _ _ _;have T1:St (· =f) A _ ([(H,.dfr),(D,.row [.int .i64 (k:Nat)] 1),(u,.row [ptrTo t] 1),(f,.row (gp (M*l) B1) 1)]++dq p) []:=T;have T':St (· =f) A _ ([(u,.row [ptrTo t] 1),(f,.row (gp (M*l) B1) 1)]++(H,.dfr)::dq p) []:=(T1.permL perm_db).drop1;simp only [BZ,r19,w,seval];exact ih (k+1) _ _ _ (by omega) ⟨by omega,H::p,B1,rfl,T',ai,af.next,by simp [am,r0,al,r1,r5,r18]⟩
   . have:k=M:=(by omega);subst this;have gE:=gO S;have S0:=S;simp only [LC]at S;simp only [BZ,r5,r18,r19,an,hlt,S.ld (b:=u) (o:=0) m0 rfl,seval];refine fS (gu p _ (L:=[(u,_),(f,_)]) (S0.permL List.perm_append_comm) fun h4 S4=>?_);refine⟨rfl,(rH (by decide)).2 (gR.2 ?_)⟩;refine⟨gO S4,t,f,B,?_,by omega,by omega,I,⟨hr S4,S4.row m1,hB⟩,oB⟩;exact rfl
 . exact⟨Xf _,[],_,rfl,S,Y.lt,OkB.zero,by simp [am,dy,al]⟩
theorem clr1_ok{a:Hp}(m:a.t.Sized a.n){c d j n i:Nat}{B:Nat->Nat}(R:Row a c (gp n B) 1)(g:j<n)(p:B j<256)(q:i<8)(s:a.load d 0 1=some [.bool false])(e:d≠c):
 Ret zB 88 [.pointer (some ⟨c,j,none⟩),.int .u8 ((2 ^i:Nat):Int),ptrTo d] a fun r k=>Mo (· =c) a k/\r=.bool true/\Row k c (gp n (gK B j (B j ^^^(B j&&& 2 ^i)))) 1:=by
 have S:=St.init1 m (o:=.row (gp n B) 1) R;have l:=S.ld (b:=c) (o:=j) m0 (uL g);have t:=pow8 q;refine aa (n:=19) (rs:=[.tmp 5]) rfl Tryz.e88 rfl rfl rfl (lbt rfl) ?_;simp only [BZ,l,yK p t,seval];refine aw (aq S (i:=0) rfl Tryz.t5.2.2.1 ca (by rw [nG];exact g) ono) ?_;clear S l;rintro h ⟨S,u⟩;simp only [LC]at S;rw [vU]at S;have f:=S.old s e;simp only [BZ,ab,f,seval];exact⟨S.fr,S.row m0⟩
def Tz(b a:Nat)(B:Nat->Nat):Prop:= ∀r i,b<=i->i/8<a->bitB B a r i=false
theorem bitB_clr{B:Nat->Nat}{a j k r i:Nat}(h:bitB B a r i=false):bitB (gK B j (B j ^^^(B j&&& 2 ^k))) a r i=false:=by
 unfold bitB gK at*
 split
 . rename_i e;rw [e]at h;rw [Nat.testBit_xor,Nat.testBit_and,h];rfl
 . exact h
theorem bSetZ_ok{y:Hp}(I:y.t.Sized y.n){A w l k d:Nat}{B:Nat->Nat}(m:iz y A w l k d B)(C:A≠w){r i:Nat}(O:r<l)(P:i<k)(s:l<=100)(t:k<=1000)(u:d=(k+7)/8)(x:Bool):
 Ret zB 28 [ptrTo A,.int .i64 (r:Nat),.int .i64 (i:Nat),.bool x] y fun v E=>Mo (· =w) y E/\ ∃Q,iz E A w l k d Q/\(Tz k d B->Tz k d Q):=by
 cases x with
 |true=>exact(bSet_ok I m C O P s t u).mono fun v E ⟨a,_,b⟩=>⟨a,_,b,fun z J K H F=>by
  rw [BB (by omega) F,if_neg (fun e=>by omega)];exact z J K H F⟩
 |false=>
 obtain⟨Z,n2,n3,n4,T,n6,U⟩:=xb O P s t u;have pl: ∀{h:Hp} {G:Nat},Gr y h->h.load G 0 1=some [.bool false]->G≠w->Ret zB 87 [ptrTo A,.int .i64 (r:Nat),.int .i64 (i:Nat),.func (.func 88) #[] #[ptrTo G]] h fun v E=>Mo (· =w) h E/\v=.bool true/\Row E w (gp (l*d) (gK B (r*d+i/8) (B (r*d+i/8) ^^^(B (r*d+i/8)&&& 2 ^(i%8))))) 1:=by
  intro h G g l7 h7;have S:=Si g.ok;have D:=m.gr g;have c1: ¬(r:Int)<0:=by omega
  have c2: ¬(l:Int)<=(r:Int):=by omega
  have c3: ¬(i:Int)<0:=by omega
  have c4: ¬(k:Int)<=(i:Int):=by omega
  have l2:=D.r.load1 (o:=2) rfl;have l3:=D.r.load1 (o:=3) rfl;have zp:=D.r.lt g.ok;refine aa (n:=46) (rs:=[.tmp 8]) rfl Tryz.e87 rfl rfl rfl (lbt rfl) ?_;simp only [BZ,c1,seval];refine ah (lu S.ok D.bits) ?_;intro H L;replace S:=S.call L;simp only [BZ,c2,c3,seval];refine ah (ou S.ok (D.gr L).bits) ?_;intro F V;replace S:=S.call V;have p:=L.trans V;have k2:=p.load l2;have k3:=p.load l3;simp only [BZ,c4,seval];refine av (ax rfl) (q:=0) (ps:=[]) (by kernel_rfl) ?_;simp only [BZ,cls,k2,k3,Z,n2,n3,n4,T,lI (n:=8) (by decide),gJ (n:=8) (by decide),b_shl8 U,seval];refine cg (clr1_ok S.ok (D.b.gr p) T (D.lt _) U (p.load l7) h7) ?_;rintro v h3 ⟨W,rfl,R3⟩;have vv:leaves F h3 A=true:=gy (W.get A (zO zp p.n) C);simp only [BZ,cls,ab,seval];exact⟨(p.fr (M:=(· =w))).trans W (fun c N=>.inl N),R3⟩
 have S:=Si I;have zb:=m.b.lt I;refine aa (n:=14) (rs:=[.tmp 8]) rfl Tryz.e28 rfl rfl rfl (lbt rfl) ?_;simp only [BZ,seval];refine ac (di (by exact qh)) S ?_;clear S;intro h G S X;simp only [BZ,seval];have k7:=S.fr.n;refine step_ret (pl S.gr (S.ld m0 rfl) (by omega)) ?_;rintro v h ⟨f,rfl,R⟩;simp only [BZ,seval];have Y:Mo (· =w) y h:=(S.gr.fr (M:=(· =w))).trans f (fun c N=>.inl N);refine⟨Y,_,⟨Y.has (o:=.row _ 1) m.r C,R,fun j=>?_⟩,fun z J K H F=>bitB_clr (z J K H F)⟩;unfold gK
 split
 . exact Nat.xor_lt_two_pow (n:=8) (m.lt _) (Nat.lt_of_le_of_lt Nat.and_le_left (m.lt _))
 . exact m.lt _
noncomputable def toR(a:Gra)(l:List Int)(i:Nat):List Int:=nj (seen a.arcs Arc.t Arc.s) a.nodes (l.getD i 0).toNat
noncomputable def frR(a:Gra)(l:List Int)(i:Nat):List Int:=nj (seen a.arcs Arc.s Arc.t) a.nodes (l.getD i 0).toNat
theorem tabOf_ok{o:Hp}(A:o.t.Sized o.n){k:Gra}(t:Good k){B H:Value}{J:Nat}(u:bW o J B k){l:List Int}(p:ay o 1 (encI .i64) H l)(f:l.length<1000):
 Ret zB 22 [B,H] o fun r I=>Gr o I/\((¬gV k.nodes l/\r=.pointer none)\/(gV k.nodes l/\TabAt I o.n r k.nodes l (toR k l) (frR k l))):=by
 have S:=Si A;obtain⟨O,rfl⟩: ∃b,B=ptrTo b:=by obtain⟨b,_,_,_,_,_,e,_⟩:=u.ex;exact⟨b,e⟩
 refine aa (n:=28) (rs:=[.tmp 4]) rfl Tryz.e22 rfl rfl rfl (lbt rfl) ?_;simp only [BZ,seval];refine ah (cM S.ok (u.gr S.gr)) ?_;intro h g;replace S:=S.call g;clear g;simp only [BZ,seval];refine ah (may_ok S.ok (p.gr S.gr) (by omega)) ?_;intro h g;replace S:=S.call g;clear g;by_cases j:gV k.nodes l
 . have C:decide (gV k.nodes l)=true:=decide_eq_true j;simp only [BZ,C,seval];refine ah (cM S.ok (u.gr S.gr)) ?_;intro h g;replace S:=S.call g;clear g;simp only [BZ,seval];have K:=S.fr.n;refine step_ret (ii S.ok (aH .i64) (p.gr S.gr) (by omega)) ?_;intro v h ⟨g,d,hM⟩;replace S:=S.call g;clear g;rename Value=>vM;obtain⟨P,Q,R,rfl⟩:=d.form;simp only [BZ,seval];refine step_ret (rows_ok S.ok cS p.fl iq) ?_;intro v h ⟨g,b1,b2,b3,e,q1,q2,q3,y1,y2,y3⟩;replace S:=S.call g;replace d:=d.gr g;clear g;subst e;simp only [BZ,seval];have z:=rows_it A S.ok S.gr.keep S.fr.n u (p.gr S.gr) (fun i w=>⟨(j.2 i w).1,(j.2 i w).2.1⟩) f (runTo t) (m:=o.n) S.fr.n y1 y2 y3;refine step_ret (xo S.ok z S.fr.n f) ?_;intro v h ⟨g,q⟩;replace S:=S.call g;replace d:=d.gr g;clear g;rename Value=>vT;obtain⟨T,U,V,rfl⟩: ∃a n c,vT=.slice a n c:=(by obtain⟨_,s,_⟩:=q;exact s.form);clear z y1 y2 y3 q1 q2 q3;simp only [BZ,seval];refine step_ret (rows_ok S.ok cS p.fl iq) ?_;intro v h ⟨g,b1,b2,b3,e,q1,q2,q3,y1,y2,y3⟩;replace S:=S.call g;replace d:=d.gr g;replace q:=q.gr g;clear g;subst e;simp only [BZ,seval];have z:=rows_it A S.ok S.gr.keep S.fr.n u (p.gr S.gr) (fun i w=>⟨(j.2 i w).1,(j.2 i w).2.1⟩) f (runFrom t) (m:=o.n) S.fr.n y1 y2 y3;refine step_ret (xo S.ok z S.fr.n f) ?_;intro v h ⟨g,L2⟩;replace S:=S.call g;replace d:=d.gr g;replace q:=q.gr g;clear g;rename Value=>vF;obtain⟨W,X,Y,rfl⟩: ∃a n c,vF=.slice a n c:=(by obtain⟨_,s,_⟩:=L2;exact s.form);simp only [BZ,seval];have L:=S;replace S:=S.base;refine ac (bR (by intro x e;cases e)) S ?_;clear S;intro h b S M;simp only [ae]at S;simp only [BZ,ab,seval];have D:=S.fr;have y:=d.mo D (fun c _ j=>by cases j);have E:=q.mo D (fun c j=>by cases j);have F:=L2.mo D (fun c j=>by cases j);have G:=S.row (b:=b) m0;replace S:=L.rebase S;exact⟨S.gr,.inr ⟨j,⟨b,_,_,_,rfl,G,y,E,F,(S.own _ m0).1.elim (fun h=>h) (fun h=>h.elim),fun c N=>Xc K (hM c N)⟩⟩⟩
 . have C:decide (gV k.nodes l)=false:=decide_eq_false j;simp only [BZ,ab,C,seval];exact⟨S.gr,.inl j⟩
theorem uS{a:Hp}(c:a.t.Sized a.n){m N:Nat}{p:Value}{l:List Int}{R Q:Nat->List Int}(t:TabAt a m p N l R Q):bG zB 46 [p] a (.int .i64 N):=by have S:=Si c;obtain⟨b,f,g,h,rfl,d,_⟩:=t.ex;have e:=d.load1 (o:=0) rfl;refine aa (n:=9) (rs:=[.tmp 2]) rfl Tryz.e46 rfl rfl rfl (lbt rfl) ?_;simp only [BZ,ab,e,seval];exact S.gr
theorem ru{a:Hp}(f:a.t.Sized a.n){m N:Nat}{p:Value}{l:List Int}{R Q:Nat->List Int}(t:TabAt a m p N l R Q)(d:l.length<1000):Ret zB 33 [p] a fun r e=>Gr a e/\ay e 1 (encI .i64) r l/\ ∀c,ar r c->a.n<=c:=by have S:=Si f;obtain⟨b,q,s,u,rfl,i,j,_⟩:=t.ex;have k:=i.load1 (o:=1) rfl;refine aa (n:=10) (rs:=[.tmp 2]) rfl Tryz.e33 rfl rfl rfl (lbt rfl) ?_;simp only [BZ,k,seval];refine step_ret (ii S.ok (aH .i64) j (by omega)) ?_;intro v h ⟨g,sl,hc⟩;replace S:=S.call g;clear g;simp only [BZ,ab,seval];exact⟨S.gr,sl,hc⟩
def pD(N n:Nat)(R:Nat->List Int)(i v:Int):Int:=if 0<=i/\i<n/\0<=v/\v<N then(R i.toNat).getD v.toNat 0 else 72057594037927936
theorem tos_ok{a:Hp}(d:a.t.Sized a.n){m N:Nat}{p:Value}{l:List Int}{R Q:Nat->List Int}(t:TabAt a m p N l R Q):Ret zB 168 [p] a fun r c=>Gr a c/\eZ c m r l.length R:=by have S:=Si d;obtain⟨b,g,h,i,rfl,e,_,L,_⟩:=t.ex;have f:=e.load1 (o:=2) rfl;refine aa (n:=7) (rs:=[.tmp 2]) rfl Tryz.e168 rfl rfl rfl (lbt rfl) ?_;simp only [BZ,ab,f,seval];exact⟨S.gr,L⟩
theorem froms_ok{a:Hp}(d:a.t.Sized a.n){m N:Nat}{p:Value}{l:List Int}{R Q:Nat->List Int}(t:TabAt a m p N l R Q):Ret zB 169 [p] a fun r c=>Gr a c/\eZ c m r l.length Q:=by have S:=Si d;obtain⟨b,g,h,i,rfl,e,_,_,L,_⟩:=t.ex;have f:=e.load1 (o:=3) rfl;refine aa (n:=7) (rs:=[.tmp 2]) rfl Tryz.e169 rfl rfl rfl (lbt rfl) ?_;simp only [BZ,ab,f,seval];exact⟨S.gr,L⟩
theorem AK{a:Hp}(A:a.t.Sized a.n){m N:Nat}{p:Value}{l:List Int}{R Q W:Nat->List Int}(t:TabAt a m p N l R Q){g:FuncId}(B: ∀h,Gr a h->Ret zB g [p] h fun r u=>Gr h u/\eZ u m r l.length W)(C: ∀i,i<l.length->(W i).length=N){i v:Int}:
 bG zB 167 [p,.func (.func g) #[p] #[],.int .i64 i,.int .i64 v] a (.int .i64 (pD N l.length W i v)):=by
 have S:=Si A;obtain⟨b,J,K,M,rfl,x,f,_⟩:=t.ex;have y:=x.load1 (o:=0) rfl;have j:=x.load1 (o:=1) rfl;unfold pD;refine aa (n:=44) (rs:=[.tmp 8]) rfl Tryz.e167 rfl rfl rfl (lbt rfl) ?_;by_cases d:i<0
 . rw [if_neg (by omega)];simp only [BZ,ab,d,seval];exact S.gr
 . by_cases k:(l.length:Int)<=i
   . rw [if_neg (by omega)];simp only [BZ,ab,j,d,k,f.lenq,seval];exact S.gr
   . by_cases s:v<0
     . rw [if_neg (by omega)];simp only [BZ,ab,j,d,k,s,f.lenq,seval];exact S.gr
     . by_cases z:(N:Int)<=v
       . rw [if_neg (by omega)];simp only [BZ,ab,y,j,d,k,s,z,f.lenq,seval];exact S.gr
       . rw [if_pos (by omega)];obtain⟨e,rfl⟩:=XA (show 0<=i by omega);obtain⟨q,rfl⟩:=XA (show 0<=v by omega);simp only [BZ,y,j,d,k,s,z,f.lenq,seval];refine step_ret (B _ S.gr) ?_;intro v h ⟨g,L⟩;replace S:=S.call g;clear g;obtain⟨w,⟨c,o,D,E⟩,sw,_⟩:=L.row (i:=e) (by omega);have F:=C e (by omega);obtain⟨O,P,G,H⟩:=sw.ix (kd:=.i64) (aH .i64) (i:=q) (by omega);have I:(W e).getD q 0=(W e)[q]:=(by simp [Xb,show q<(W e).length by omega]);simp only [BZ,ab,D,E,G,H,encI,XL,I,seval];exact S.gr
theorem tabTo_ok{a:Hp}(b:a.t.Sized a.n){m N:Nat}{p:Value}{l:List Int}{R Q:Nat->List Int}(t:TabAt a m p N l R Q)(c: ∀i,i<l.length->(R i).length=N){i v:Int}:bG zB 115 [p,.int .i64 i,.int .i64 v] a (.int .i64 (pD N l.length R i v)):=by have S:=Si b;refine aa (n:=13) (rs:=[.tmp 6]) rfl Tryz.e115 rfl rfl rfl (lbt rfl) ?_;simp only [BZ,seval];refine ah (AK S.ok t (fun h g=>tos_ok g.ok (t.gr g)) c) ?_;intro h g;replace S:=S.call g;clear g;simp only [BZ,ab,seval];exact S.gr
theorem Dd{a:Hp}(b:a.t.Sized a.n){m N:Nat}{p:Value}{l:List Int}{R Q:Nat->List Int}(t:TabAt a m p N l R Q)(c: ∀i,i<l.length->(Q i).length=N){i v:Int}:bG zB 116 [p,.int .i64 i,.int .i64 v] a (.int .i64 (pD N l.length Q i v)):=by have S:=Si b;refine aa (n:=13) (rs:=[.tmp 6]) rfl Tryz.e116 rfl rfl rfl (lbt rfl) ?_;simp only [BZ,seval];refine ah (AK S.ok t (fun h g=>froms_ok g.ok (t.gr g)) c) ?_;intro h g;replace S:=S.call g;clear g;simp only [BZ,ab,seval];exact S.gr
def Sep(a:List Value):Prop:= ∀(i j:Nat) (w u:Value) (c:Nat),a[i]? =some w->a[j]? =some u->i≠j->ar w c-> ¬ar u c
theorem vb{b:Type}{l:List b}{x u:b}{j:Nat}(h:(l++[x])[j]? =some u):l[j]? =some u\/(j=l.length/\u=x):=by
 by_cases c:j<l.length
 . rw [Xx c]at h;exact .inl h
 . rw [Xw (by omega)]at h;have a:j-l.length=0:=(by have:=(List.getElem?_eq_some_iff.1 h).1;simp at this;omega);rw [a]at h;cases h;exact .inr ⟨by omega,rfl⟩
theorem Sep.push{f:List Value}{y:Value}(s:Sep f)(h: ∀(j:Nat) u,f[j]? =some u-> ∀c,ar u c-> ¬ar y c):Sep (f++[y]):=by
 intro i j w u c a b g d e;rcases vb a with a|⟨k,l⟩<;>rcases vb b with b|⟨m,n⟩
 . exact s i j w u c a b g d e
 . rw [n]at e;exact h i w a c d e
 . rw [l]at d;exact h j u b c e d
 . exact g (k.trans m.symm)
def WrI(h:Hp)(w:Value)(l:List Int):Prop:=ay h 1 (encI .i64) w l/\(l≠ []-> ∃b,w=.slice (some ⟨b,0,some 1⟩) l.length l.length/\Row h b (ints l) 1)
theorem WrI.mo{M:Nat->Prop}{h a:Hp}{w:Value}{l:List Int}(r:WrI h w l)(g:Mo M h a)(c: ∀b,ar w b-> ¬M b):WrI a w l:=
 ⟨r.1.mo g c,fun d=>by obtain⟨b,e,k⟩:=r.2 d;exact⟨b,e,g.has (o:=.row _ 1) k (c b (by rw [e];rfl))⟩⟩
theorem WrI.gr{h a:Hp}{w:Value}{l:List Int}(r:WrI h w l)(g:Gr h a):WrI a w l:=r.mo (M:=NoM) g.fr (fun _ _ h=>h)
theorem BK{a:Hp}(p:a.t.Sized a.n){v:Value}{xs:List Int}(q:ay a 1 (encI .i64) v xs)(u:xs.length<1000000):Ret zB 132 [v] a fun r d=>Gr a d/\WrI d r xs/\ ∀c,ar r c->a.n<=c:=by
 have S:=Si p;by_cases j:xs=[]
 . obtain⟨r,d,w,g,x,k⟩:=sF p q u;exact⟨r,d,w,g,⟨x,fun h=>absurd j h⟩,k⟩
 rcases q with⟨rfl,rfl⟩|⟨b,o,s,c,rfl,y,z⟩
 . exact absurd rfl j
 . refine aa (n:=8) (rs:=[.tmp 2]) rfl Tryz.e132 rfl rfl rfl (lbt rfl) ?_;simp only [BZ,seval];refine ac (bg (by exact Tryz.t23.1) (by exact XS) (by decide) (by rfl)) S ?_;clear S;intro h B S t;simp only [LC,aU,bD,ae,Xl,Xj,Xk,Xo,seval]at S;simp only [BZ,seval];have l:ay h 1 (encI .i64) (.slice (some ⟨b,o,s⟩) xs.length c) xs:=.inr ⟨b,o,s,c,rfl,y,S.old z (fun h=>h)⟩;refine dX (S.clone (n:=0) (vs:=[]) Tryz.t23.1 XS (by decide) Tryz.t23.2.2.2.2.2 l.src (aI (aH .i64) xs).symm rfl (by decide) (by rw [aI (aH .i64)];simp;omega) (S.row m0)) ?_;rintro d v (⟨e,_⟩|⟨f,rfl,m⟩)
   . exact absurd (List.length_eq_zero_iff.1 e) j
   simp only [BZ,ab,seval];have i:Row d f (ints xs) 1:=m.row m0;have A:a.n<=f:=(m.own _ m0).1.elim (fun h=>h) (fun h=>h.elim);refine⟨m.gr,⟨.inr ⟨f,0,some 1,xs.length,rfl,XD _,?_⟩,fun _=>⟨f,rfl,i⟩⟩,fun c k=>?_⟩
   . rw [i.load (by rw [bQ];omega),List.drop_zero,Xk,<-bQ xs,Xq];rfl
   . obtain rfl:f=c:=k;exact A
def LLD(h:Hp)(m k:Nat)(v:Value)(n:Nat)(R:Nat->List Int):Prop:=
 ∃a:List Value,ay h 1 encV v a/\a.length=n/\(∀c,ar v c->m<=c/\c<k)/\(∀(i:Nat) w,a[i]? =some w->WrI h w (R i)/\ ∀c,ar w c->m<=c/\c<k/\ ¬ar v c)/\Sep a
theorem LLD.ll{h:Hp}{m k n:Nat}{v:Value}{R:Nat->List Int}(r:LLD h m k v n R):eZ h m v n R:=by obtain⟨g,a,b,c,d,_⟩:=r;exact⟨g,a,b,fun x e=>(c x e).1,fun i w f=>⟨(d i w f).1.1,fun x e=>((d i w f).2 x e).1⟩⟩
theorem LLD.mo{M:Nat->Prop}{h o:Hp}{m k n:Nat}{v:Value}{R:Nat->List Int}(r:LLD h m k v n R)(g:Mo M h o)(p: ∀b,M b->b<m\/k<=b):LLD o m k v n R:=by obtain⟨s,a,b,c,d,e⟩:=r;exact⟨s,a.mo g (fun x f j=>by have:=c x f;have:=p x j;omega),b,c,fun i w l=>⟨(d i w l).1.mo g (fun x f j=>by have q:=(d i w l).2 x f;have t:=q.1;have u:=q.2.1;have:=p x j;omega),(d i w l).2⟩,e⟩
theorem LLD.gr{h a:Hp}{m k n:Nat}{v:Value}{R:Nat->List Int}(r:LLD h m k v n R)(g:Gr h a):LLD a m k v n R:=r.mo (M:=NoM) g.fr (fun _ h=>h.elim)
theorem LLD.form{h:Hp}{m k n:Nat}{v:Value}{R:Nat->List Int}(r:LLD h m k v n R): ∃a n c,v=.slice a n c:=by obtain⟨_,s,_⟩:=r;rcases s with⟨rfl,_⟩|⟨b,o,s,c,rfl,_⟩<;>exact⟨_,_,_,rfl⟩
theorem mem_gkey{M:Nat->Prop}{f h:Hp}{v:Value}{a:List Value}{k:Nat}(S:St M f h [] [(v,k,a)]){c:Nat}(d:ar v c):c∈keys [] [(v,k,a)]:=by
 have g:fu (v,k,a)=some c:=by
  rcases(S.gown (v,k,a) (List.mem_singleton.2 rfl)).1 with⟨e,_⟩|⟨b,n,e,_⟩
  . rw [show v=_ from e]at d;exact d.elim
  . have i:v=.slice (some ⟨b,0,some k⟩) n n:=e;rw [i]at d⊢;exact congrArg some d
 exact List.mem_filterMap.2 ⟨_,List.mem_singleton.2 rfl,g⟩
theorem qU {p:Hp} (Z:p.t.Sized p.n) {v:Value} {m n:Nat} {R:Nat->List Int} (O:eZ p m v n R) (hn:n<1000) (hR: ∀i,i<n->(R i).length<1000000):
 Ret zB 73 [v] p fun r H=>Gr p H/\LLD H p.n H.n r n R:=by
 have S:=Si Z;refine aa (n:=18) (rs:=[.tmp 2]) rfl Tryz.e73 rfl rfl rfl (lbt rfl) ?_;simp only [BZ,O.lenq,seval];replace S:=S.nilG (k:=1);refine az (fun(i:Nat) D h=>i<=n/\ ∃(f:List Value) (t:Value),St NoM p h [] [(t,1,f)]/\f.length=i/\(∀j w,f[j]? =some w->WrI h w (R j)/\ ∀c,ar w c->p.n<=c/\c∉keys [] [(t,1,f)])/\Sep f/\D 2=t/\D 5=v/\D 6=.int .i64 n/\D 7=.int .i64 i) (fun i=>n-i) ?_ 0 _ _ ?_
 . clear S;intro i ih D h ⟨hi,f,t,S,z,hc,hd,r2,r5,r6,r7⟩;have ad:Fl t:=by
    rcases(S.gown _ m0).1 with⟨e,_⟩|⟨_,_,e,_⟩
    . rw [show t=_ from e];exact ce
    . rw [show t=_ from e];exact ce
   by_cases hlt:i<n
   . obtain⟨x,⟨q,o,E,I⟩,P,_⟩:=(O.gr S.gr).row hlt;have fx:=P.fl;have w:ag .i64 ((i:Int)+1)=((i+1:Nat):Int):=(by rw [wrap64]<;>omega);simp only [BZ,r2,r5,r6,r7,an,hlt,E,I,seval];have J:=S;refine step_ret (BK S.ok P (hR i hlt)) ?_;rintro y Q ⟨g,K,L⟩;have G:=S.call g;obtain⟨A,B,C,rfl⟩:=K.1.form;have fy:Fl (.slice A B C):=ce;have l: ∀(j:Nat) u,(f++[.slice A B C])[j]? =some u->WrI Q u (R j)/\ ∀c,ar u c->p.n<=c/\c∉keys [] [(t,1,f)]/\c<Q.n:=fun j u d=>by
      rcases vb d with d|⟨rfl,rfl⟩
      . obtain⟨T,U⟩:=hc j u d;exact⟨T.gr g,fun c a=>⟨(U c a).1,(U c a).2,(T.gr g).1.lt G.ok a⟩⟩
      . rw [z];exact⟨K,fun c a=>⟨Xc J.fr.n (L c a),fun M=>by have:=J.key_lt M;have:=L c a;omega,K.1.lt G.ok a⟩⟩
     have N:=hd.push (y:=.slice A B C) fun j u d c a hy=>(by have:=(hc j u d).1.1.lt J.ok a;have:=L c hy;omega);replace S:=G.base;simp only [BZ,seval];refine ac (bg (by exact Tryz.t39.1) (by exact XQ) (by decide) (by rfl)) S ?_;clear S;intro h V S W;simp only [LC,aU,bD,ae,Xl,Xj,Xk,Xo,seval]at S;simp only [BZ,seval];have F:aC h 1 (.slice (some ⟨V,0,none⟩) 1 1)=some (1,[.slice A B C]):=(by simp only [aC];rw [S.lds (b:=V) (o:=0) (n:=1*1) m0 (lbt rfl)];rfl);replace S:=S.drop1;refine dX (S.grow (j:=0) (m:=1) (new:=[.slice A B C]) rfl Tryz.t39.1 XQ (by decide) Tryz.t39.2.2.2.2.2 F rfl (by decide) (by simp [fy.2.1]) (by simp;omega)) ?_;clear S F;rintro h s S;simp only [LC]at S;have fv:Fl s:=by
      rcases(S.gown _ m0).1 with⟨e,_⟩|⟨_,_,e,_⟩
      . rw [show s=_ from e];exact ce
      . rw [show s=_ from e];exact ce
     simp only [BZ,r7,w,seval];refine ih (i+1) _ _ (by omega) ⟨by omega,f++[.slice A B C],s,G.rebase S,by simp [z],fun j u d=>⟨(l j u d).1.mo S.fr (fun c a=>((l j u d).2 c a).2.1),fun c a=>⟨((l j u d).2 c a).1,fun M=>?_⟩⟩,N,by simp [am,r5,r6]⟩;rcases S.key_new c M with X|X
     . exact((l j u d).2 c a).2.1 X
     . have:=((l j u d).2 c a).2.2;omega
   . simp only [BZ,ab,r2,r6,r7,an,hlt,seval];have Y:=(S.gown _ m0).1.sl (zA f).symm qw (by decide);refine⟨S.gr,f,Y,by omega,fun c a=>⟨((S.gblk m0 a).1).elim (fun h=>h) (fun h=>h.elim),Y.lt S.ok a⟩,fun j u d=>⟨(hc j u d).1,fun c a=>⟨((hc j u d).2 c a).1,(hc j u d).1.1.lt S.ok a,fun hv=>((hc j u d).2 c a).2 ?_⟩⟩,hd⟩;exact mem_gkey S hv
 . exact⟨Xf _,[],_,S,rfl,fun j w z=>by simp at z,fun i j w u c z=>by simp at z,by simp [am,cq]⟩
def ja(N:Nat)(l:List Int):Prop:=l.length=N/\ ∀x∈l,0<=x/\x<=72057594037927936
theorem mk11_ok{a:Hp}(b:a.t.Sized a.n){x:Int}(e:0<=x/\x<=72057594037927936):bG zB 76 [.int .i64 x] a (.bool false):=by
 have S:=Si b;have c: ¬x<0:=by omega
 have d: ¬72057594037927936<x:=by omega
 refine aa (n:=9) (rs:=[.tmp 2]) rfl Tryz.e76 rfl rfl rfl (lbt rfl) ?_;simp only [BZ,ab,c,d,seval];exact S.gr
theorem mkIdx_ok{a:Hp}(e:a.t.Sized a.n){v:Value}{l:List Int}(f:ay a 1 (encI .i64) v l)(m:l.length<=1000000)(j: ∀x∈l,0<=x/\x<=72057594037927936):bG zB 143 [v,.func (.func 76) #[] #[]] a (.int .i64 (-1)):=by
 have S:=Si e;refine aa (n:=19) (rs:=[.tmp 4]) rfl Tryz.e143 rfl rfl rfl (lbt rfl) ?_;simp only [BZ,f.lenq,seval];refine az (fun(i:Nat) b h=>i<=l.length/\Gr a h/\b 0=v/\b 1=.func (.func 76) #[] #[]/\b 7=.int .i64 l.length/\b 8=.int .i64 i) (fun i=>l.length-i) ?_ 0 _ _ ?_
 . clear S;intro i k b h ⟨hi,S,r0,r1,r7,r8⟩;by_cases hlt:i<l.length
   . obtain⟨q,o,c,d⟩:=(f.gr S).ix (kd:=.i64) (aH .i64) hlt;have w:ag .i64 ((i:Int)+1)=((i+1:Nat):Int):=(by rw [wrap64]<;>omega);simp only [BZ,r0,r1,r7,r8,an,hlt,c,d,encI,seval];refine ah (mk11_ok S.ok (j _ (Xd hlt))) ?_;intro p g;simp only [BZ,r8,w,seval];exact k (i+1) _ _ (by omega) ⟨by omega,S.trans g,by simp [am,r0,r1,r7]⟩
   . simp only [BZ,ab,r7,r8,an,hlt,seval];exact S
 . exact⟨Xf _,Gr.refl e,by simp [am,cq,cV]⟩
theorem mkCf_ok{a:Hp}(b:a.t.Sized a.n){v:Value}{l:List Int}(c:ay a 1 (encI .i64) v l)(d:l.length<=1000000)(e: ∀x∈l,0<=x/\x<=72057594037927936):bG zB 75 [v,.func (.func 76) #[] #[]] a (.bool false):=by have S:=Si b;refine aa (n:=9) (rs:=[.tmp 4]) rfl Tryz.e75 rfl rfl rfl (lbt rfl) ?_;simp only [BZ,seval];refine ah (mkIdx_ok S.ok c d e) ?_;intro h g;replace S:=S.call g;clear g;simp only [BZ,ab,seval];exact S.gr
theorem mk1_ok{a:Hp}(f:a.t.Sized a.n){b N:Nat}{v:Value}{l:List Int}(i:a.load b 0 1=some [.int .i64 N])(c:ay a 1 (encI .i64) v l)(d:ja N l)(j:N<=1000000):bG zB 74 [v,ptrTo b] a (.bool false):=by have S:=Si f;have e:=d.1;subst e;refine aa (n:=12) (rs:=[.tmp 3]) rfl Tryz.e74 rfl rfl rfl (lbt rfl) ?_;simp only [BZ,c.lenq,i,seval];refine ah (mkCf_ok S.ok c j d.2) ?_;intro h g;replace S:=S.call g;clear g;simp only [BZ,ab,seval];exact S.gr
theorem mkIdxR_ok{a:Hp}(f:a.t.Sized a.n){b N m n:Nat}{v:Value}{R:Nat->List Int}(l:a.load b 0 1=some [.int .i64 N])(j:eZ a m v n R)(t:n<=1000000)(p: ∀i,i<n->ja N (R i))(r:N<=1000000):bG zB 144 [v,.func (.func 74) #[] #[ptrTo b]] a (.int .i64 (-1)):=by
 have S:=Si f;refine aa (n:=19) (rs:=[.tmp 4]) rfl Tryz.e144 rfl rfl rfl (lbt rfl) ?_;simp only [BZ,j.lenq,seval];refine az (fun(i:Nat) c h=>i<=n/\Gr a h/\c 0=v/\c 1=.func (.func 74) #[] #[ptrTo b]/\c 7=.int .i64 n/\c 8=.int .i64 i) (fun i=>n-i) ?_ 0 _ _ ?_
 . clear S;intro i s c h ⟨hi,S,r0,r1,r7,r8⟩;by_cases hlt:i<n
   . obtain⟨x,⟨q,o,d,e⟩,k,_⟩:=(j.gr S).row hlt;have u:=k.fl;have w:ag .i64 ((i:Int)+1)=((i+1:Nat):Int):=(by rw [wrap64]<;>omega);simp only [BZ,r0,r1,r7,r8,an,hlt,d,e,seval];refine ah (mk1_ok S.ok (S.load l) k (p i hlt) r) ?_;intro y g;simp only [BZ,r8,w,seval];exact s (i+1) _ _ (by omega) ⟨by omega,S.trans g,by simp [am,r0,r1,al,r7]⟩
   . simp only [BZ,ab,r7,r8,an,hlt,seval];exact S
 . exact⟨Xf _,Gr.refl f,by simp [am,cq,cV,al]⟩
theorem mkCfR_ok{a:Hp}(c:a.t.Sized a.n){b N m n:Nat}{v:Value}{R:Nat->List Int}(d:a.load b 0 1=some [.int .i64 N])(e:eZ a m v n R)(f:n<=1000000)(j: ∀i,i<n->ja N (R i))(k:N<=1000000):bG zB 78 [v,.func (.func 74) #[] #[ptrTo b]] a (.bool false):=by have S:=Si c;refine aa (n:=9) (rs:=[.tmp 4]) rfl Tryz.e78 rfl rfl rfl (lbt rfl) ?_;simp only [BZ,seval];refine ah (mkIdxR_ok S.ok d e f j k) ?_;intro h g;replace S:=S.call g;clear g;simp only [BZ,ab,seval];exact S.gr
theorem mk2_ok{a:Hp}(o:a.t.Sized a.n){b d e N m n:Nat}{v f:Value}{l:List Int}{R:Nat->List Int}(p:a.load d 0 1=some [f])(q:a.load e 0 1=some [.func (.func 74) #[] #[ptrTo b]])(j:ay a 1 (encI .i64) f l)(r:a.load b 0 1=some [.int .i64 N])(k:eZ a m v n R)(s:n<=1000000)(c:l.length=n)(t: ∀i,i<n->ja N (R i))(u:N<=1000000):bG zB 77 [v,ptrTo d,ptrTo e] a (.bool false):=by have S:=Si o;have w:=j.fl;subst c;refine aa (n:=15) (rs:=[.tmp 4]) rfl Tryz.e77 rfl rfl rfl (lbt rfl) ?_;simp only [BZ,k.lenq,j.lenq,p,q,seval];refine ah (mkCfR_ok S.ok r k s t u) ?_;intro h g;replace S:=S.call g;clear g;simp only [BZ,ab,seval];exact S.gr
theorem make_ok{k:Hp}(ok:k.t.Sized k.n){N mT mF:Nat}{O P T:Value}{l:List Int}{R Q:Nat->List Int}(t:ay k 1 (encI .i64) O l)(U:eZ k mT P l.length R)(V:eZ k mF T l.length Q)(n1:1<=N)(hN:N<=100)(W:gV N l)(X: ∀i,i<l.length->ja N (R i))(Y: ∀i,i<l.length->ja N (Q i)):
 Ret zB 24 [.int .i64 N,O,P,T] k fun r Z=>Gr k Z/\TabAt Z k.n r N l R Q:=by
 have S:=Si ok;have ad:=W.1;have m:l.length<1000:=by omega
 have c1: ¬(N:Int)<1:=by omega
 have cm:decide (gV N l)=true:=decide_eq_true W;have fM:=t.fl;obtain⟨ma,mn,mc,rfl⟩:=t.form;refine aa (n:=40) (rs:=[.tmp 8]) rfl Tryz.e24 rfl rfl rfl (lbt rfl) ?_;simp only [BZ,seval];refine ac (bR (by intro x e;cases e)) S ?_;clear S;intro h d S af;simp only [ae]at S;simp only [BZ,if_false,seval];refine ac (bR (by intro x e;cases e)) S ?_;clear S;intro h f S ai;simp only [ae]at S;simp only [BZ,seval];refine ac au S ?_;clear S;intro h B S ak;simp only [BZ,seval];refine aw (aq S (i:=0) rfl ?_ ?_ ?_ ono) ?_
 . exact(by simp only [XR])
 . exact(by exact iq)
 . exact Xp (lbt rfl)
 clear S;rintro h ⟨S,mo⟩;clear mo;simp only [LC,ae,lay,Xr,Xs,seval]at S;have p:=S.ld (b:=d) (o:=0) m2 rfl;have s:=S.ld (b:=f) (o:=0) m1 rfl;have z:=S.ld (b:=B) (o:=0) m0 rfl;simp only [BZ,p,s,c1,seval];refine ah (may_ok S.ok (t.gr S.gr) (by omega)) ?_;intro h g;replace S:=S.call g;clear g;rw [cm];simp only [BZ,seval];have p:=S.ld (b:=d) (o:=0) m2 rfl;have s:=S.ld (b:=f) (o:=0) m1 rfl;have z:=S.ld (b:=B) (o:=0) m0 rfl;refine ah (mk2_ok S.ok s z (t.gr S.gr) p (U.gr S.gr) (by omega) rfl X (by omega)) ?_;intro h g;replace S:=S.call g;clear g;simp only [BZ,seval];have p:=S.ld (b:=d) (o:=0) m2 rfl;have s:=S.ld (b:=f) (o:=0) m1 rfl;have z:=S.ld (b:=B) (o:=0) m0 rfl;refine ah (mk2_ok S.ok s z (t.gr S.gr) p (V.gr S.gr) (by omega) rfl Y (by omega)) ?_;intro h g;replace S:=S.call g;clear g;have p:=S.ld (b:=d) (o:=0) m2 rfl;have s:=S.ld (b:=f) (o:=0) m1 rfl;simp only [BZ,seval];refine av (ax rfl) (q:=256) (ps:=[(0,6),(0,4),(0,2)]) (by kernel_rfl) ?_;simp only [BZ,cls,p,s,seval];refine cg (ii S.ok (aH .i64) (t.gr S.gr) (by omega)) ?_;rintro v h ⟨g,a,nM⟩;have e41:leaves _ _ d=true:=aP g ((S.row (b:=d) m2).lt S.ok);have e51:leaves _ _ f=true:=aP g ((S.row (b:=f) m1).lt S.ok);have k1:=S.fr.n;have C:=fun c (j:c∈keys _ _)=>S.key_lt j;replace S:=S.call g;clear g;obtain⟨va,vn,vc,rfl⟩:=a.form;simp only [BZ,cls,seval];refine cg (qU S.ok (U.gr S.gr) m (fun i D=>by have:=(X i D).1;omega)) ?_;rintro v h ⟨g,A⟩;have e42:leaves _ _ d=true:=aP g ((S.row (b:=d) m2).lt S.ok);have e52:leaves _ _ f=true:=aP g ((S.row (b:=f) m1).lt S.ok);have k2:=S.fr.n;have E:=fun c (j:c∈keys _ _)=>S.key_lt j;replace S:=S.call g;replace a:=a.gr g;clear g;obtain⟨ta,tn,tc,rfl⟩:=A.form;simp only [BZ,cls,seval];refine cg (qU S.ok (V.gr S.gr) m (fun i D=>by have:=(Y i D).1;omega)) ?_;rintro v h ⟨g,L2⟩;have e43:leaves _ _ d=true:=aP g ((S.row (b:=d) m2).lt S.ok);have e53:leaves _ _ f=true:=aP g ((S.row (b:=f) m1).lt S.ok);have k3:=S.fr.n;have F:=fun c (j:c∈keys _ _)=>S.key_lt j;replace S:=S.call g;replace a:=a.gr g;replace A:=A.gr g;clear g;obtain⟨fa,fn,fc,rfl⟩:=L2.form;simp only [BZ,cls,seval];have u:=S;replace S:=S.base;have q4:=(u.row (b:=d) m2).lt u.ok;have q5:=(u.row (b:=f) m1).lt u.ok;refine ec (bR (by intro x e;cases e)) S ?_;clear S;intro h b S aL G;simp only [ae]at S;have H:d≠b:=by omega
 have I:f≠b:=by omega
 simp only [BZ,cls,ab,seval];refine⟨by simp only [aY,bj,aR,bo,aW,ne_eq,not_false_eq_true,bz,bK,aX,aV,bZ,cw,aS,Xi,al,aE e41,aE e42,aE e43,aE e51,aE e52,aE e53,im H,im I,<-G,seval],?_⟩;have J:=S.fr;have w:=a.mo J (fun c j y=>by have:=nM c j;have:=C c y;omega);have K:=A.mo J (fun c y=>.inl (E c y));have L:=L2.mo J (fun c y=>.inl (F c y));have M:=S.row (b:=b) m0;replace S:=u.rebase S;exact⟨S.gr,⟨b,_,_,_,rfl,M,w,K.ll.low k2,L.ll.low k3,(S.own _ m0).1.elim (fun h=>h) (fun h=>h.elim),fun c j=>Xc k1 (nM c j)⟩⟩
theorem wV{a:Hp}(x:a.t.Sized a.n){m N:Nat}{p:Value}{l:List Int}{R Q:Nat->List Int}(t:TabAt a m p N l R Q)(s:l.length<1000)(y: ∀i,i<l.length->(R i).length<1000000)(z: ∀i,i<l.length->(Q i).length<1000000):
 Ret zB 23 [p] a fun r c=>Gr a c/\ ∃f j k,r=.tuple #[f,j]/\LLD c a.n k f l.length R/\LLD c k c.n j l.length Q/\a.n<=k/\k<=c.n:=by
 have S:=Si x;obtain⟨b,G,f,j,rfl,d,_,A,B,_⟩:=t.ex;have C:=d.load1 (o:=2) rfl;refine aa (n:=16) (rs:=[.tmp 2,.tmp 3]) rfl Tryz.e23 rfl rfl rfl (lbt rfl) ?_;simp only [BZ,seval];refine av (ax rfl) (q:=0) (ps:=[(4,8)]) (by kernel_rfl) ?_;simp only [BZ,cls,C,seval];refine cg (qU S.ok (A.gr S.gr) s y) ?_;rintro v h ⟨g,e⟩;have H:=S.fr.n;have u:leaves _ _ b=true:=aP g (d.lt S.ok);replace S:=S.call g;replace d:=d.gr g;clear g;obtain⟨I,J,K,rfl⟩:=e.form;have D:=d.load1 (o:=3) rfl;simp only [BZ,cls,D,seval];refine cg (qU S.ok (B.gr S.gr) s z) ?_;rintro v h ⟨g,w⟩;have E:=S.fr.n;have F:=S.ok;replace S:=S.call g;replace e:=e.gr g;obtain⟨L,M,O,rfl⟩:=w.form;simp only [BZ,cls,ab,seval];refine⟨by simp only [aY,bj,aR,bo,aW,ne_eq,not_false_eq_true,bz,bK,aX,aV,bZ,cw,aS,Xi,al,aE u,aT u,seval],?_⟩;exact⟨S.gr,_,_,_,rfl,e,w,E,g.n⟩
def byB(n:Nat)(B:Nat->Nat):Bs:=(zM n).map fun j=>UInt8.ofNat (B j)
theorem yS{n:Nat}{B:Nat->Nat}(h: ∀j,B j<256):gp n B=aQ (byB n B):=by unfold gp aQ byB;rw [List.map_map];refine XJ fun j _=>?_;simp [Nat.mod_eq_of_lt (h j)]
def cJ(l:List (List Int))(i:Nat):List Int:=l.getD i []
def TabM(h:Hp)(p:Value)(N:Nat)(T:Tab):Prop:=(∃m,TabAt h m p N T.l (cJ T.to) (cJ T.fr))/\TabL N T
theorem TabM.gr{h a:Hp}{p:Value}{N:Nat}{T:Tab}(t:TabM h p N T)(g:Gr h a):TabM a p N T:=⟨by obtain⟨m,x⟩:=t.1;exact⟨m,x.gr g⟩,t.2⟩
def lg(h:Hp)(e f:Value)(c:Gra)(m:List Int)(F:Bs):Prop:= ∃k d g b a B,iP h k e m/\m.length=c.nodes/\f=ptrTo d/\hU m+1=((b:Nat):Int)/\iz h d g b c.arcs.length a B/\F=byB (b*a) B/\(∀x∈m,0<=x/\x<256)/\ ¬rx m/\a=(c.arcs.length+7)/8/\Tz c.arcs.length a B
theorem lg.gr{h n:Hp}{o p:Value}{q:Gra}{m:List Int}{F:Bs}(c:lg h o p q m F)(g:Gr h n):lg n o p q m F:=by obtain⟨k,r,s,j,l,B,a,b,c,d,e,f,i⟩:=c;exact⟨k,r,s,j,l,B,a.gr g,b,c,d,e.gr g,f,i⟩
def TabX(h:Hp)(p:Value)(N:Nat):Option Tab->Prop
 |none=>p=.pointer none|some T=>TabM h p N T
def CelX(h:Hp)(a b:Value)(c:Gra):Option (List Int×Bs)->Prop
 |none=>a=.pointer none/\b=.pointer none|some (m,F)=>lg h a b c m F
theorem TabX.gr{h a:Hp}{p:Value}{N:Nat}{T:Option Tab}(t:TabX h p N T)(g:Gr h a):TabX a p N T:=by
 cases T with
 |none=>exact t|some T=>exact TabM.gr t g
theorem CelX.gr{h a:Hp}{b d:Value}{e:Gra}{C:Option (List Int×Bs)}(t:CelX h b d e C)(g:Gr h a):CelX a b d e C:=by
 cases C with
 |none=>exact t|some c=>exact lg.gr t g
def ImC(h:Hp)(a b c d:Value)(I:Img):Prop:=(∃e,bW h e a I.g)/\fI I.g/\TabX h b I.g.nodes I.T/\CelX h c d I.g I.C
theorem ImC.gr{h a:Hp}{b c d e:Value}{I:Img}(i:ImC h b c d e I)(g:Gr h a):ImC a b c d e I:=⟨by obtain⟨f,n⟩:=i.1;exact⟨f,n.gr g⟩,i.2.1,i.2.2.1.gr g,i.2.2.2.gr g⟩
def lN(h:Hp)(b:Nat)(I:Img):Prop:= ∃a c d e,Row h b [a,c,d,e] 1/\ImC h a c d e I
theorem lN.gr{h a:Hp}{b:Nat}{I:Img}(i:lN h b I)(g:Gr h a):lN a b I:=by obtain⟨d,e,f,j,r,c⟩:=i;exact⟨d,e,f,j,r.gr g,c.gr g⟩
theorem TabM.ptr{h:Hp}{p:Value}{N:Nat}{T:Tab}(t:TabM h p N T): ∃b,p=ptrTo b:=by obtain⟨⟨m,t⟩,_⟩:=t;obtain⟨b,_,_,_,e,_⟩:=t.ex;exact⟨b,e⟩
theorem lg.ptr{h:Hp}{a d:Value}{i:Gra}{m:List Int}{F:Bs}(c:lg h a d i m F): ∃b c,a=ptrTo b/\d=ptrTo c:=by obtain⟨k,j,n,f,g,B,⟨b,_,e,_⟩,_,l,_⟩:=c;exact⟨b,j,e,l⟩
theorem bW.ptr{h:Hp}{a:Nat}{p:Value}{c:Gra}(n:bW h a p c): ∃b,p=ptrTo b:=by obtain⟨b,_,_,_,_,_,e,_⟩:=n.ex;exact⟨b,e⟩
theorem Ag{d:Hp}(i:d.t.Sized d.n){h f a e c:Nat}{B:Nat->Nat}(b:iz d h f a e c B):bG zB 35 [ptrTo h] d (sv (byB (a*c) B)):=by
 have S:=Si i;have j:=b.r.load1 (o:=3) rfl;have g:(byB (a*c) B).length=a*c:=by simp [byB]
 have k:BySl d (.slice (some ⟨f,0,none⟩) (a*c) (a*c)) (byB (a*c) B):=.inr ⟨f,0,none,a*c,by rw [g],by rw [g];exact XD _,by
  rw [g,byF,<-yS b.lt,b.b.load (by rw [nG];omega),List.drop_zero,Xk,XC (by rw [nG];omega)]⟩
 refine aa (n:=10) (rs:=[.tmp 2]) rfl Tryz.e35 rfl rfl rfl (lbt rfl) ?_;simp only [BZ,bV,aA,ab,j,vP k,seval];exact S.gr
theorem fits_im{a:Hp}(i:a.t.Sized a.n){d e f:Value}{b:Gra}{j:Nat}{m:List Int}{F:Bs}(l:bW a j d b)(n:1<=b.nodes)(s:b.nodes<1000000)(c:lg a e f b m F):bG zB 48 [d,e,f] a (.bool true):=by obtain⟨k,t,u,g,h,B,o,p,rfl,q,r,_⟩:=c;have:=Ch i l (.inr ⟨⟨k,o⟩,rfl⟩) r.bits n (by omega);simpa [p,q]using this
theorem right_ok{f:Hp}(H:f.t.Sized f.n){b:Nat}{I:Img}(i:lN f b I):bG zB 15 [ptrTo b] f (.bool true):=by
 have S:=Si H;obtain⟨V,J,K,L,r,⟨W,x⟩,y,j,a⟩:=i;obtain⟨X,rfl⟩:=x.ptr;have M:=r.lt H;have c:=r.load1 (o:=0) rfl;have d:=r.load1 (o:=1) rfl;have l:=r.load1 (o:=2) rfl;have s:=r.load1 (o:=3) rfl;have N:=y.n1;have Y:=y.n2;cases O:I.T with
 | none=>
   rw [O]at j;have j:J=.pointer none:=j;subst j;cases z:I.C with
   | none=>
     rw [z]at a;obtain⟨rfl,rfl⟩:=a;refine aa (n:=72) (rs:=[.tmp 2]) rfl XT rfl rfl rfl (lbt rfl) ?_;simp only [BZ,c,seval];refine av (ax rfl) (q:=0) (ps:=[(10,14)]) (by kernel_rfl) ?_;simp only [BZ,cls,d,l,s,seval];refine⟨by simp only [aY,bj,aR,bo,aW,ne_eq,not_false_eq_true,bz,bK,aX,aV,bZ,cw,aS,Xi,al,dy,seval];rfl,?_⟩;refine av (ax rfl) (q:=0) (ps:=[]) (by kernel_rfl) ?_;simp only [BZ,cls,ab,seval];exact S.gr
   | some E=>
     obtain⟨m,F⟩:=E;rw [z]at a;have a:lg f K L I.g m F:=a;obtain⟨R,U,rfl,rfl⟩:=a.ptr;refine aa (n:=72) (rs:=[.tmp 2]) rfl XT rfl rfl rfl (lbt rfl) ?_;simp only [BZ,c,seval];refine av (ax rfl) (q:=0) (ps:=[(10,14)]) (by kernel_rfl) ?_;simp only [BZ,cls,d,l,seval];refine⟨by simp only [aY,bj,aR,bo,aW,ne_eq,not_false_eq_true,bz,bK,aX,aV,bZ,cw,aS,Xi,al,dy,seval];rfl,?_⟩;refine av (ax rfl) (q:=0) (ps:=[]) (by kernel_rfl) ?_;simp only [BZ,cls,c,l,s,seval];refine fh (fits_im S.ok x N (by omega) a) ?_;intro h g;have t:=aP g M;replace S:=S.call g;simp only [BZ,cls,ab,seval];exact S.gr
 | some T=>
   rw [O]at j;have j:TabM f J I.g.nodes T:=j;obtain⟨Z,rfl⟩:=j.ptr;obtain⟨⟨mt,C⟩,P⟩:=j;have t1:=P.l1;have t2:=P.l2;have Q:(0:Int)<(T.l.length:Int):=(by omega);have q: ∀{u w D:Hp},Gr f u->Gr u w->Gr w D->leaves f u b=true/\leaves u w b=true/\leaves w D b=true:=fun e k p=>(by have:=e.n;have:=k.n;exact⟨aP e M,aP k (by omega),aP p (by omega)⟩);cases z:I.C with
   | none=>
     rw [z]at a;obtain⟨rfl,rfl⟩:=a;refine aa (n:=72) (rs:=[.tmp 2]) rfl XT rfl rfl rfl (lbt rfl) ?_;simp only [BZ,c,seval];refine av (ax rfl) (q:=0) (ps:=[(10,14)]) (by kernel_rfl) ?_;simp only [BZ,cls,d,seval];refine fh (uS S.ok C) ?_;intro u e;replace S:=S.call e;simp only [BZ,cls,e.load c,seval];refine fh (cM S.ok (x.gr S.gr)) ?_;intro w k;replace S:=S.call k;simp only [BZ,cls,S.gr.load d,seval];refine cg (ru S.ok (C.gr S.gr) (by omega)) ?_;rintro v D ⟨p,G,_⟩;obtain⟨t,A,B⟩:=q e k p;replace S:=S.call p;simp only [BZ,cls,G.lenq,Q,S.gr.load c,S.gr.load d,S.gr.load l,S.gr.load s,seval];refine⟨by simp only [aY,bj,aR,bo,aW,ne_eq,not_false_eq_true,bz,bK,aX,aV,bZ,cw,aS,Xi,al,dy,aT t,aE t,aT A,aE A,aT B,aE B,seval],?_⟩;refine av (ax rfl) (q:=0) (ps:=[]) (by kernel_rfl) ?_;simp only [BZ,cls,ab,S.gr.load c,S.gr.load d,S.gr.load l,S.gr.load s,seval];exact S.gr
   | some E=>
     obtain⟨m,F⟩:=E;rw [z]at a;have a:lg f K L I.g m F:=a;obtain⟨R,U,rfl,rfl⟩:=a.ptr;refine aa (n:=72) (rs:=[.tmp 2]) rfl XT rfl rfl rfl (lbt rfl) ?_;simp only [BZ,c,seval];refine av (ax rfl) (q:=0) (ps:=[(10,14)]) (by kernel_rfl) ?_;simp only [BZ,cls,d,seval];refine fh (uS S.ok C) ?_;intro u e;replace S:=S.call e;simp only [BZ,cls,e.load c,seval];refine fh (cM S.ok (x.gr S.gr)) ?_;intro w k;replace S:=S.call k;simp only [BZ,cls,S.gr.load d,seval];refine cg (ru S.ok (C.gr S.gr) (by omega)) ?_;rintro v D ⟨p,G,_⟩;obtain⟨t,A,B⟩:=q e k p;replace S:=S.call p;simp only [BZ,cls,G.lenq,Q,S.gr.load c,S.gr.load d,S.gr.load l,S.gr.load s,seval];refine⟨by simp only [aY,bj,aR,bo,aW,ne_eq,not_false_eq_true,bz,bK,aX,aV,bZ,cw,aS,Xi,al,dy,aT t,aE t,aT A,aE A,aT B,aE B,seval],?_⟩;refine av (ax rfl) (q:=0) (ps:=[]) (by kernel_rfl) ?_;simp only [BZ,cls,S.gr.load c,S.gr.load d,S.gr.load l,S.gr.load s,seval];have k1:=S.gr.n;refine fh (fits_im S.ok (x.gr S.gr) N (by omega) (a.gr S.gr)) ?_;intro h g;have e4:=aP g (show b<_ by omega);replace S:=S.call g;simp only [BZ,cls,ab,seval];exact S.gr
theorem graphS_ok{C:Hp}(Y:C.t.Sized C.n){b:Nat}{I:Img}(i:lN C b I):Ret zB 89 [ptrTo b] C fun r Z=>Gr C Z/\r=sv (fo I.g):=by
 have S:=Si Y;obtain⟨pn,pt,pc,pf,r,⟨nb,H⟩,l,_,_⟩:=i;obtain⟨bn,rfl⟩:=H.ptr;have l0:=r.load1 (o:=0) rfl;obtain⟨d,_,_⟩:=I;simp only []at H l;have n2:=l.n2;have Q:=l.many;have lX:=l.lX;have lY:=l.lY;refine aa (n:=65) (rs:=[.tmp 2]) rfl Tryz.e89 rfl rfl rfl (lbt rfl) ?_;simp only [BZ];refine step_ret (pd S) ?_;rintro _ h ⟨t,rfl,S⟩;simp only [BZ,S.gr.load l0,seval];have kb:=S.key_lt (b:=t) (by simp [keys]);refine step_ret (netRaw_ok S.ok l (H.gr S.gr)) ?_;rintro _ J ⟨g,K,L,E,rfl,B,hz,_⟩;replace S:=S.call g;have fx:=B.X.fl;have fy:=B.Y.fl;have fa:=B.A.fl;have S0:=S;replace S:=S.base;have R: ∀{v:Hp},Mo (· ∈[t]) J v->dh v K L E d:=fun f=>B.mo f (fun c hc e=>by simp only [Xt]at e;have:=hz c hc;omega);simp only [BZ,i7];refine ac au S ?_;clear S;intro h u S T;simp only [BZ,seval];refine aw (S.store (i:=0) rfl Tryz.t37.2.1 (by intro x e;cases e) rfl (by simp only [ae,XE,XG,fx.2.1,fy.2.1,fa.2.1,Xi];rfl) (lbt rfl) ono) ?_;clear S;rintro h ⟨S,_⟩;simp only [LC,ae,lay,Xr,Xs,seval]at S;have wn:=cD (k:=.u32) rfl (n:=d.nodes) (by simp only [pw];omega);have wa:=cD (k:=.u32) rfl (n:=d.arcs.length) (by simp only [pw];omega);simp only [BZ,bV,aA,cj,B.A.lenq,wn,wa,S.ld (b:=u) (o:=0) m0 rfl,S.ld (b:=u) (o:=3) m0 rfl,seval];refine ac (bg (by exact Tryz.t180.1) (by exact Tryz.e58E) (by decide) (by rfl)) S ?_;clear S;intro h U S y;simp only [LC,aU,bD,ae,Xl,Xj,Xk,Xo,seval]at S;obtain⟨S,z,A⟩:=S.bsl (kd:=.u32) (xs:=[(d.nodes:Int),(d.arcs.length:Int)]);simp only [BZ,seval];refine step_ret (ry S (i:=1) (j:=0) rfl rfl z A (by simp)) ?_;clear S z A;rintro _ h ⟨m,S⟩;simp only [LC,Xe,Xn]at S;rw [gU (by omega),gU (by omega)]at S;try rw [List.nil_append]at S
 simp only [BZ,S.ld (b:=u) (o:=0) m0 rfl,seval];have lz:(d.X.zip d.Y).length=d.nodes:=by rw [List.length_zip];omega
 have lk: ∀k,((d.X.zip d.Y).take k).length<=300:=fun k=>by rw [Xz];omega
 refine az (fun(k:Nat) p v=>k<=d.nodes/\ ∃m,St (· ∈keys [(t,Ob.row [.slice none 0 0] 1)] [(.slice none 0 0,1,aQ [])]) J v [(u,.row [.int .i64 d.nodes,K,L,E] 1),(t,.row [m] 1)] [(m,1,aQ (aK 4 d.nodes++aK 4 d.arcs.length++((d.X.zip d.Y).take k).flatMap xyB))]/\p 3=ptrTo t/\p 4=ptrTo u/\p 25=.int .i64 d.nodes/\p 26=.int .i64 k) (fun k=>d.nodes-k) ?_ 0 _ _ ⟨Xf _,m,by simpa using S,by simp [am,al]⟩;clear S;intro k F p v ⟨hk,m,S,r3,r4,r25,r26⟩;have w:ag .i64 ((k:Int)+1)=((k+1:Nat):Int):=by rw [wrap64]<;>omega
 have s:=R S.fr;by_cases hlt:k<d.nodes
 . obtain⟨c1,o1,M,G⟩:=s.X.ix (kd:=.i64) (aH .i64) (i:=k) (by omega);obtain⟨c2,o2,i2,d2⟩:=s.Y.ix (kd:=.i64) (aH .i64) (i:=k) (by omega);have N:k<(d.X.zip d.Y).length:=(by omega);have D:(d.X.zip d.Y).take (k+1)=(d.X.zip d.Y).take k++[(d.X[k],d.Y[k])]:=(by rw [Xa N,List.getElem_zip]);have tb:(d.X.zip d.Y).take (k+1)=(d.X.zip d.Y).take k++[(d.X[k],d.Y[k])]:=D;have bl:=lk k;simp only [BZ,r25,r26,an,hlt,seval];refine av (ax rfl) (q:=2048) (ps:=[]) (by kernel_rfl) ?_;simp only [BZ,cls,r3,r4,M,i2,G,d2,encI,S.ld (b:=u) (o:=1) m0 rfl,S.ld (b:=u) (o:=2) m0 rfl,seval];refine ec (bg (by exact Tryz.t23.1) (by exact XS) (by decide) (by rfl)) S ?_;clear S;intro h U S y V;simp only [LC,aU,bD,ae,Xl,Xj,Xk,Xo,seval]at S;obtain⟨S,z,A⟩:=S.bsl (kd:=.i64) (xs:=[d.X[k],d.Y[k]]);simp only [BZ,cls,seval];refine cg (yd S (i:=1) (j:=0) rfl rfl z A (by rw [Xh,Xh,aF,aF,dO qf];simp;omega)) ?_;clear S z A;rintro _ h ⟨m,S⟩;simp only [LC,Xe,Xn]at S;rw [Xv,show((d.X.zip d.Y).take k).flatMap xyB++(aK 8 (u64 d.X[k])++aK 8 (u64 d.Y[k]))=((d.X.zip d.Y).take (k+1)).flatMap xyB by rw [D,Xm];simp [xyB,put8]]at S;simp only [BZ,r26,w,seval];exact F (k+1) _ _ (by omega) ⟨by omega,m,S,by simp [am,r3,r4,r25]⟩
 . have:k=d.nodes:=(by omega);subst this;rw [XC (by omega)]at S;generalize W:aK 4 d.nodes++aK 4 d.arcs.length++(d.X.zip d.Y).flatMap xyB=P at S;have lP:P.length<=5000:=(by rw [<-W,Xh,Xh,aF,aF,dO qf,lz];omega);simp only [BZ,r4,r25,r26,an,hlt,B.A.lenq,S.ld (b:=u) (o:=3) m0 rfl,seval];refine az (fun(k:Nat) p v=>k<=d.arcs.length/\ ∃m,St (· ∈keys [(t,Ob.row [.slice none 0 0] 1)] [(.slice none 0 0,1,aQ [])]) J v [(u,.row [.int .i64 d.nodes,K,L,E] 1),(t,.row [m] 1)] [(m,1,aQ (P++(d.arcs.take k).flatMap jD))]/\p 3=ptrTo t/\p 44=E/\p 45=.int .i64 d.arcs.length/\p 46=.int .i64 k) (fun k=>d.arcs.length-k) ?_ 0 _ _ ⟨Xf _,m,by simpa using S,by simp [am,r3]⟩;clear S s r3 r4 r25 r26 F w;intro k F p v ⟨hk,m,S,r3,r44,r45,r46⟩;have w:ag .i64 ((k:Int)+1)=((k+1:Nat):Int):=(by rw [wrap64]<;>omega);have s:=R S.fr;by_cases hlt:k<d.arcs.length
   . obtain⟨c1,o1,M,G⟩:=s.A.ix (kd:=.i64) ez hlt;have ha:=l.arcs d.arcs[k] (Xd hlt);have D:d.arcs.take (k+1)=d.arcs.take k++[d.arcs[k]]:=Xa hlt;have bl:(d.arcs.take k).length<=400:=(by rw [Xz];omega);generalize d.arcs[k]=a at G ha D;have w1:=cD (k:=.u32) rfl (n:=a.s) (by simp only [pw];omega);have w2:=cD (k:=.u32) rfl (n:=a.t) (by simp only [pw];omega);have w3:=cD (k:=.u32) rfl (n:=a.w) (by simp only [pw];omega);simp only [BZ,r44,r45,r46,an,hlt,M,G,cE,seval];refine ac au S ?_;clear S;intro h O S X;simp only [BZ,seval];refine aw (S.store (i:=0) rfl ?_ ?_ rfl rfl ?_ ono) ?_
     . exact(by exact Tryz.t90.2.1)
     . exact(by intro x e;cases e)
     . exact lbt rfl
     clear S;rintro h ⟨S,mo⟩;clear mo;simp only [LC,ae,lay,Xr,Xs,seval]at S;simp only [BZ,bV,aA,cj,r3,w1,w2,w3,S.ld (b:=O) (o:=0) m0 rfl,S.ld (b:=O) (o:=1) m0 rfl,S.ld (b:=O) (o:=2) m0 rfl,seval];refine ac (bg (by exact Tryz.t180.1) (by exact Tryz.e58E) (by decide) (by rfl)) S ?_;clear S;intro h U S y;simp only [LC,aU,bD,ae,Xl,Xj,Xk,Xo,seval]at S;obtain⟨S,z,A⟩:=S.bsl (kd:=.u32) (xs:=[(a.s:Int),(a.t:Int),(a.w:Int)]);simp only [BZ,seval];refine step_ret (ry S (i:=2) (j:=0) rfl rfl z A (by rw [Xh,dO sg];simp;omega)) ?_;clear S z A;rintro _ h ⟨m,S⟩;simp only [LC,Xe,Xn]at S;rw [gU (by omega),gU (by omega),gU (by omega),Xv,show(d.arcs.take k).flatMap jD++(aK 4 a.s++(aK 4 a.t++aK 4 a.w))=(d.arcs.take (k+1)).flatMap jD by rw [D,Xm];simp [jD]]at S;simp only [BZ,r46,w,seval];exact F (k+1) _ _ (by omega) ⟨by omega,m,S.drop1,by simp [am,r3,r44,r45]⟩
   . have:k=d.arcs.length:=(by omega);subst this;rw [Xq]at S;have gw:=(S.gown _ m0).1;simp only [BZ,r3,r45,r46,an,hlt,seval];refine ah (kV S.ok (S.ld (b:=t) (o:=0) m1 rfl) gw) ?_;intro h g;replace S:=S0.rebase (S.call g);simp only [BZ,ab,seval];exact⟨S.gr,by rw [<-W];unfold fo;simp only [Xv]⟩
theorem cmapN_ok{a:Hp}(e:a.t.Sized a.n){p:Value}{m:List Int}{k:Nat}(c:iP a k p m)(f:m.length<1000000):Ret zB 34 [p] a fun r d=>Gr a d/\ay d 1 (encI .i64) r m/\ ∀c,ar r c->a.n<=c:=by have S:=Si e;obtain⟨b,v,rfl,r,s,_,_⟩:=c;have i:=r.load1 (o:=0) rfl;refine aa (n:=10) (rs:=[.tmp 2]) rfl Tryz.e34 rfl rfl rfl (lbt rfl) ?_;simp only [BZ,i,seval];refine step_ret (ii S.ok (aH .i64) s f) ?_;intro v h ⟨g,sl,q⟩;replace S:=S.call g;clear g;simp only [BZ,ab,seval];exact⟨S.gr,sl,q⟩
theorem mix_take{l m:List (List Int)}(h:l.length=m.length){k:Nat}(c:k<l.length):(mix l m).take (2*(k+1))=(mix l m).take (2*k)++[l[k],m[k]'(h▸c)]:=by
 induction l generalizing m k with
 |nil=>simp at c| cons a l d=>
   cases m with
   |nil=>simp at h| cons b m=>
     cases k with
     |zero=>simp [mix]| succ k=>
       have:=d (m:=m) (by simpa using h) (k:=k) (by simpa using c);rw [show 2*(k+1+1)=2*(k+1)+2 by omega,show 2*(k+1)=2*k+2 by omega]at*
       simp only [mix,List.take_succ_cons,List.getElem_cons_succ,List.cons_append];rw [this]
theorem rows_len{N:Nat}(l:List (List Int))(h: ∀r∈l,r.length=N):(l.flatMap py).length=8*N*l.length:=y5 l fun r a=>wh (h r a)
theorem LLD.rd{M:Nat->Prop}{h e:Hp}{m k n i:Nat}{v:Value}{R:Nat->List Int}(r:LLD h m k v n R)(u:i<n)(f:Mo M h e)(p: ∀b,M b->b<m\/k<=b):
 ∃w c o,iW (some 1) v (.int .i64 (i:Nat))=some (.pointer (some ⟨c,o,none⟩))/\e.load c o 1=some [w]/\ay e 1 (encI .i64) w (R i)/\ ∀c,ar w c->m<=c/\c<k:=by
 obtain⟨g,a,b,c,d,_⟩:=r.mo f p;obtain⟨q,o,s,t⟩:=a.ix (kd:=.i64) qw (i:=i) (by omega);have j:g[i]? =some g[i]:=Xg (by omega);exact⟨g[i],q,o,s,t,(d i _ j).1.1,fun x l=>⟨((d i _ j).2 x l).1,((d i _ j).2 x l).2.1⟩⟩
theorem marksS_ok{v:Hp}(ok:v.t.Sized v.n){b:Nat}{I:Img}{T:Tab}(hT:I.T=some T)(i:lN v b I):Ret zB 90 [ptrTo b] v fun r h'=>Gr v h'/\r=sv (fW T):=by
 have S:=Si ok;obtain⟨pn,pt,pc,pf,r,_,L,B,_⟩:=i;rw [hT]at B;have B:TabM v pt I.g.nodes T:=B;obtain⟨bt,rfl⟩:=B.ptr;obtain⟨⟨mt,Y⟩,t⟩:=B;have n2:=L.n2;have Z:=r.load1 (o:=1) rfl;have t1:=t.l1;have t2:=t.l2;have t3:=t.to;have t4:=t.fr;have M: ∀{i:Nat},(h:i<T.l.length)->cJ T.to i=T.to[i]/\cJ T.fr i=T.fr[i]:=fun {i} h=>by unfold cJ;simp [Xb,show i<T.to.length by omega,show i<T.fr.length by omega]
 have N: ∀i,i<T.l.length->(cJ T.to i).length=I.g.nodes/\(cJ T.fr i).length=I.g.nodes:=fun i h=>by rw [(M h).1,(M h).2];exact⟨(t.rTo _ (Xd _)).1,(t.rFr _ (Xd _)).1⟩
 refine aa (n:=62) (rs:=[.tmp 2]) rfl Tryz.e90 rfl rfl rfl (lbt rfl) ?_;simp only [BZ];refine step_ret (pd S) ?_;rintro _ h ⟨q,rfl,S⟩;simp only [BZ,S.gr.load Z,seval];have kb:=S.key_lt (b:=q) (by simp [keys]);refine step_ret (ru S.ok (Y.gr S.gr) (by omega)) ?_;rintro O Q ⟨g,H,hM⟩;replace S:=S.call g;have R:=S;replace S:=S.base;have gB:=R.gr;have U: ∀{s:Hp},Mo (· ∈[q]) Q s->ay s 1 (encI .i64) O T.l:=fun f=>H.mo f (fun c d e=>by simp only [Xt]at e;have:=hM c d;omega);have w0:=cD (k:=.u8) rfl (n:=T.l.length) (by simp only [pw];omega);simp only [BZ,bV,aA,cj,H.lenq,w0,seval];refine ac (bg (by exact Tryz.t22.1) (by exact Tryz.e5E) (by decide) (by rfl)) S ?_;clear S;intro h bs S C;simp only [LC,aU,bD,ae,Xl,Xj,Xk,Xo,seval]at S;obtain⟨S,D,E⟩:=S.bsl (kd:=.u8) (xs:=[(T.l.length:Int)]);simp only [BZ,seval];refine step_ret (xO S (i:=0) (j:=0) rfl rfl D E (by simp)) ?_;clear S D E;rintro _ h ⟨p,S⟩;simp only [LC,Xe,Xn]at S;rw [gU (by omega)]at S;try rw [List.nil_append]at S
 simp only [BZ,H.lenq,seval];refine az (fun(k:Nat) a s=>k<=T.l.length/\ ∃p,St (· ∈keys [(q,Ob.row [.slice none 0 0] 1)] [(.slice none 0 0,1,aQ [])]) Q s [(q,.row [p] 1)] [(p,1,aQ (aK 1 T.l.length++(T.l.take k).flatMap ot))]/\a 0=ptrTo b/\a 3=ptrTo q/\a 4=O/\a 22=O/\a 23=.int .i64 T.l.length/\a 24=.int .i64 k) (fun k=>T.l.length-k) ?_ 0 _ _ ⟨Xf _,p,by simpa using S,by simp [am,cq,al]⟩;clear S;intro k J a s ⟨hk,p,S,r0,r3,r4,r22,r23,r24⟩;have w:ag .i64 ((k:Int)+1)=((k+1:Nat):Int):=by rw [wrap64]<;>omega
 by_cases hlt:k<T.l.length
 . obtain⟨c1,o1,z,y⟩:=(U S.fr).ix (kd:=.i64) (aH .i64) hlt;have hx:=t.rl _ (Xd hlt);have tk:T.l.take (k+1)=T.l.take k++[T.l[k]]:=Xa hlt;have bl:(T.l.take k).length<=16:=(by rw [Xz];omega);generalize T.l[k]=x at y hx tk;obtain⟨x,rfl⟩:=XA hx.1;have wx:=cD (k:=.u32) rfl (n:=x) (by simp only [pw];omega);simp only [BZ,bV,aA,cj,r3,r22,r23,r24,an,hlt,z,y,encI,wx,seval];refine ac (bg (by exact Tryz.t180.1) (by exact Tryz.e58E) (by decide) (by rfl)) S ?_;clear S;intro h bs S C;simp only [LC,aU,bD,ae,Xl,Xj,Xk,Xo,seval]at S;obtain⟨S,D,E⟩:=S.bsl (kd:=.u32) (xs:=[(x:Int)]);simp only [BZ,seval];refine step_ret (ry S (i:=0) (j:=0) rfl rfl D E (by rw [Xh,aF,dO oU];simp;omega)) ?_;clear S D E;rintro _ h ⟨p,S⟩;simp only [LC,Xe,Xn]at S;rw [gU (by omega),Xv,show(T.l.take k).flatMap ot++aK 4 x=(T.l.take (k+1)).flatMap ot by rw [tk,Xm];simp [ot]]at S;simp only [BZ,r24,w,seval];exact J (k+1) _ _ (by omega) ⟨by omega,p,S,by simp [am,r0,r3,r4,r22,r23]⟩
 . have:k=T.l.length:=(by omega);subst this;rw [Xq]at S;generalize hP:aK 1 T.l.length++T.l.flatMap ot=P at S;have lP:P.length<=100:=(by rw [<-hP,Xh,aF,dO oU];omega);have F: ∀{s:Hp},Mo (· ∈[q]) Q s->Gr v s:=fun f=>(gB.fr.trans f (fun c d=>by simp only [Xt]at d;subst d;exact R.key_own (by simp [keys])|>.elim .inr .inl):Mo NoM v _).gr;have ad:=S.fr.n;simp only [BZ,r0,r23,r24,an,hlt,(F S.fr).load Z,seval];refine step_ret (wV S.ok (Y.gr (F S.fr)) (by omega) (fun i h=>by have:=N i h;omega) (fun i h=>by have:=N i h;omega)) ?_;rintro _ hC ⟨g,vT,vF,kk,rfl,DT,DF,y1,y2⟩;have K: ∀c∈keys [(q,Ob.row [p] 1)] [(p,1,aQ P)],c<_:=fun c d=>S.key_lt d;replace S:=R.rebase (S.call g);have S1:=S;replace S:=S.base;have LT: ∀k,((mix T.to T.fr).take k).length<=32:=fun k=>(by rw [Xz,uH (by omega)];omega);have LM: ∀k,∀r∈(mix T.to T.fr).take k,r.length=I.g.nodes:=fun k r hr=>(yu (List.mem_of_mem_take hr)).elim (fun h=>(t.rTo r h).1) (fun h=>(t.rFr r h).1);obtain⟨ta,tn,tc,eT⟩:=DT.form;obtain⟨fa,fn,fc,eF⟩:=DF.form;simp only [BZ,r4,H.lenq,seval];refine az (fun(k:Nat) a s=>k<=T.l.length/\ ∃V,St (· ∈keys [(q,Ob.row [p] 1)] [(p,1,aQ P)]) hC s [(q,.row [V] 1)] [(V,1,aQ (P++((mix T.to T.fr).take (2*k)).flatMap py))]/\a 3=ptrTo q/\a 7=vT/\a 8=vF/\a 43=.int .i64 T.l.length/\a 44=.int .i64 k) (fun k=>T.l.length-k) ?_ 0 _ _ ⟨Xf _,p,by simpa using S,by simp [am,r3]⟩;clear S r0 r3 r4 r22 r23 r24 J w hlt hk;intro k J a s ⟨hk,V,S,r3,r7,r8,r43,r44⟩;have w:ag .i64 ((k:Int)+1)=((k+1:Nat):Int):=(by rw [wrap64]<;>omega);by_cases hlt:k<T.l.length
   . obtain⟨g1,g2⟩:=M hlt;obtain⟨q1,q2⟩:=N k hlt;have mt:=mix_take (l:=T.to) (m:=T.fr) (by omega) (k:=k) (by omega);rw [<-g1,<-g2]at mt;have l0:=LT (2*k);have lr:=rows_len _ (LM (2*k));have l8:8*I.g.nodes*((mix T.to T.fr).take (2*k)).length<=8*300*32:=Nat.mul_le_mul (by omega) l0;obtain⟨u,c1,o1,z,y,G,A⟩:=DT.rd hlt S.fr (fun b W=>.inl (K b W));simp only [BZ,r3,r7,r43,r44,an,hlt,z,y,seval];refine step_ret (yd S (i:=0) (j:=0) rfl rfl G (fun c d X=>?_) (by rw [Xh,lr];omega)) ?_
     . rcases S.key_own X with h|h
       . have:=A c d;omega
       . have:=K c h;have:=A c d;omega
     clear S G A z y;rintro _ h ⟨v3,S⟩;simp only [LC,Xe,Xn]at S;obtain⟨u2,c1,o1,z,y,G,A⟩:=DF.rd hlt S.fr (fun b W=>.inl (zO (K b W) y1));simp only [BZ,r3,r8,z,y,seval];refine step_ret (yd S (i:=0) (j:=0) rfl rfl G (fun c d X=>?_) (by rw [Xh,Xh,lr,show(fun x=>aK 8 (u64 x))=put8 from rfl,dO nu];omega)) ?_
     . rcases S.key_own X with h|h
       . have:=A c d;omega
       . have:=K c h;have:=A c d;omega
     clear S G A z y;rintro _ h ⟨v3,S⟩;simp only [LC,Xe,Xn]at S;rw [Xv,Xv,show((mix T.to T.fr).take (2*k)).flatMap py++((cJ T.to k).flatMap (fun x=>aK 8 (u64 x))++(cJ T.fr k).flatMap (fun x=>aK 8 (u64 x)))=((mix T.to T.fr).take (2*(k+1))).flatMap py by rw [mt,Xm];simp only [Xe,Xn,XO];rfl]at S;simp only [BZ,r44,w,seval];exact J (k+1) _ _ (by omega) ⟨by omega,v3,S,by simp [am,r3,r7,r8,r43]⟩
   . have:k=T.l.length:=(by omega);subst this;rw [XC (by rw [uH (by omega)];omega)]at S;have gw:=(S.gown _ m0).1;simp only [BZ,r3,r43,r44,an,hlt,seval];refine ah (kV S.ok (S.ld (b:=q) (o:=0) m0 rfl) gw) ?_;intro h g;replace S:=S1.rebase (S.call g);simp only [BZ,ab,seval];exact⟨S.gr,by rw [<-hP];unfold fW;simp only [Xv]⟩
theorem cellsS_ok{a:Hp}(L:a.t.Sized a.n){b:Nat}{I:Img}{m:List Int}{F:Bs}(M:I.C=some (m,F))(i:lN a b I):Ret zB 91 [ptrTo b] a fun r N=>Gr a N/\r=sv (gc m):=by
 have S:=Si L;obtain⟨pn,pt,O,P,r,_,s,_,u⟩:=i;rw [M]at u;obtain⟨k,fp,fb,v,y,B,Q,lm,_,_,_,_,R,_⟩:=(u:lg a O P I.g m F);have n2:=s.n2;have T:=r.load1 (o:=2) rfl;refine aa (n:=25) (rs:=[.tmp 2]) rfl Tryz.e91 rfl rfl rfl (lbt rfl) ?_;simp only [BZ];refine step_ret (pd S) ?_;rintro _ h ⟨d,rfl,S⟩;simp only [BZ,S.gr.load T,seval];have kb:=S.key_lt (b:=d) (by simp [keys]);refine step_ret (cmapN_ok S.ok (Q.gr S.gr) (by omega)) ?_;rintro z A ⟨g,C,U⟩;replace S:=S.call g;have V:=S;replace S:=S.base;have t: ∀{l:Hp},Mo (· ∈[d]) A l->ay l 1 (encI .i64) z m:=fun f=>C.mo f (fun c W e=>by simp only [Xt]at e;have:=U c W;omega);simp only [BZ,C.lenq,seval];refine az (fun(k:Nat) p l=>k<=m.length/\ ∃q,St (· ∈keys [(d,Ob.row [.slice none 0 0] 1)] [(.slice none 0 0,1,aQ [])]) A l [(d,.row [q] 1)] [(q,1,aQ (gc (m.take k)))]/\p 3=ptrTo d/\p 11=z/\p 12=.int .i64 m.length/\p 13=.int .i64 k) (fun k=>m.length-k) ?_ 0 _ _ ⟨Xf _,_,S,by simp [am,al]⟩;clear S;intro k X p l ⟨hk,q,S,r3,r11,r12,r13⟩;have w:ag .i64 ((k:Int)+1)=((k+1:Nat):Int):=by rw [wrap64]<;>omega
 by_cases hlt:k<m.length
 . obtain⟨c1,o1,Y,D⟩:=(t S.fr).ix (kd:=.i64) (aH .i64) hlt;have E:=R _ (Xd hlt);have G:m.take (k+1)=m.take k++[m[k]]:=Xa hlt;have Z:(gc (m.take k)).length=k:=(by simp [gc];omega);generalize m[k]=x at D E G;obtain⟨x,rfl⟩:=XA E.1;have wx:=cD (k:=.u8) rfl (n:=x) (by simp only [pw];omega);simp only [BZ,bV,aA,cj,r3,r11,r12,r13,an,hlt,Y,D,encI,wx,seval];refine ac (bg (by exact Tryz.t22.1) (by exact Tryz.e5E) (by decide) (by rfl)) S ?_;clear S;intro h bs S H;simp only [LC,aU,bD,ae,Xl,Xj,Xk,Xo,seval]at S;obtain⟨S,J,K⟩:=S.bsl (kd:=.u8) (xs:=[(x:Int)]);simp only [BZ,seval];refine step_ret (xO S (i:=0) (j:=0) rfl rfl J K (by rw [Z];simp;omega)) ?_;clear S J K;rintro _ h ⟨q,S⟩;simp only [LC,Xe,Xn]at S;rw [gU (by omega),show gc (m.take k)++aK 1 x=gc (m.take (k+1)) by rw [G];simp [gc,aK]]at S;simp only [BZ,r13,w,seval];exact X (k+1) _ _ (by omega) ⟨by omega,q,S,by simp [am,r3,r11,r12]⟩
 . have:k=m.length:=(by omega);subst this;rw [Xq]at S;have gw:=(S.gown _ m0).1;simp only [BZ,r3,r12,r13,an,hlt,seval];refine ah (kV S.ok (S.ld (b:=d) (o:=0) m0 rfl) gw) ?_;intro h g;replace S:=V.rebase (S.call g);simp only [BZ,ab,seval];exact S.gr
structure Qd where
 kd:Nat
 is:Bool
 f:Value
 body:Bs
def encQ(q:Qd):List Value:=[.int .i64 (q.kd:Nat),.bool q.is,q.f]
theorem AV(q:Qd):(encQ q).length=3:=rfl
def kT(l:List Qd):List Sec:=(l.filter Qd.is).map fun q=>(q.kd,q.body)
theorem CN(l:List Qd)(q:Qd):kT (l++[q])=kT l++if q.is=true then [(q.kd,q.body)]else []:=by unfold kT;rw [List.filter_append,List.map_append];cases h:q.is<;>simp [h]
theorem build_q4{a b c d e f g h i j k l:Value}:lC zB 160 [(0,.agg ⟨[a,b,c]⟩),(1,.agg ⟨[d,e,f]⟩),(2,.agg ⟨[g,h,i]⟩),(3,.agg ⟨[j,k,l]⟩)]=some (.agg ⟨[a,b,c,d,e,f,g,h,i,j,k,l]⟩):=by unfold lC;rw [Tryz.t160.2.2.2.1,Tryz.t160.1];simp only [Tryz.t159.2.1];rfl
theorem index_q4{l:List Qd}(a:l.length=4){i:Nat}(b:i<4):kQ zB 160 (.agg ⟨l.flatMap encQ⟩) (.int .i64 (i:Nat))=some (.agg ⟨encQ (l[i]'(by omega))⟩):=by unfold kQ;rw [Tryz.t160.1];simp only [Tryz.t159.2.1,eU b,partOf,Tryz.t159.1,aI AV,a];rw [Nat.ble_eq_true_of_le (by omega),cond_true,wY AV]
theorem qd{E:Env}{t:TypeId}{x y:Operand}{p:Value}{s:Bool}(a:oK E t=true)(h:(p=.pointer none/\s=false)\/((∃b,p=ptrTo b)/\s=true)):aZ E .neq t x y p (.pointer none)=some (.bool s):=by
 rcases h with⟨rfl,rfl⟩|⟨⟨b,rfl⟩,rfl⟩
 . exact n_pnil a
 . exact n_ptr a
theorem sec1_ok{a:Hp}(j:a.t.Sized a.n){b c:Nat}{I:Img}{m:List Int}{F:Bs}(l:I.C=some (m,F))(i:lN a b I)(p:a.load c 0 1=some [ptrTo b]):bG zB 92 [ptrTo c] a (sv F):=by have S:=Si j;obtain⟨w,x,q,s,r,_,t,_,d⟩:=i;rw [l]at d;obtain⟨k,y,z,e,f,B,_,_,rfl,_,u,rfl,_⟩:=(d:lg a q s I.g m F);have v:=r.load1 (o:=3) rfl;refine aa (n:=7) (rs:=[.tmp 1]) rfl Tryz.e92 rfl rfl rfl (lbt rfl) ?_;simp only [BZ,p,v,seval];refine ah (Ag S.ok u) ?_;intro h g;replace S:=S.call g;clear g;simp only [BZ,ab,seval];exact S.gr
def tabO:Option Tab->Bs
 |some T=>fW T|none=>[]
theorem Ce{B:Hp}(ok:B.t.Sized B.n){b:Nat}{I:Img}(i:lN B b I):Ret zB 29 [ptrTo b] B fun r s=>Gr B s/\ay s 2 encS r (eO I):=by
 have S:=Si ok;have K:=i;obtain⟨pn,X,Y,pf,r,_,aL,L,M⟩:=i;have l1:=r.load1 (o:=1) rfl;have l2:=r.load1 (o:=2) rfl;have nT:(X=.pointer none/\I.T.isSome=false)\/((∃b,X=ptrTo b)/\I.T.isSome=true):=by
  cases C:I.T with
  |none=>rw [C]at L;exact .inl ⟨L,rfl⟩|some T=>rw [C]at L;exact .inr ⟨TabM.ptr L,rfl⟩
 have nC:(Y=.pointer none/\I.C.isSome=false)\/((∃b,Y=ptrTo b)/\I.C.isSome=true):=by
  cases u:I.C with
  |none=>rw [u]at M;exact .inl ⟨M.1,rfl⟩|some c=>obtain⟨m,F⟩:=c;rw [u]at M;obtain⟨x,y,e,_⟩:=lg.ptr M;exact .inr ⟨⟨x,e⟩,rfl⟩
 have eT:=fun(x y:Operand)=>qd (x:=x) (y:=y) Tryz.t72.2.2.2.2.1 nT;have eC:=fun(x y:Operand)=>qd (x:=x) (y:=y) Tryz.t73.2.2.2.2.1 nC;refine aa (n:=48) (rs:=[.tmp 2]) rfl Tryz.e29 rfl rfl rfl (lbt rfl) ?_;simp only [BZ,seval];refine ac (di (by exact cS)) S ?_;clear S;intro h Z S ad;have R1:=S.row (b:=Z) m0;have z:=S.gr;have D:=R1.load1 (o:=0) rfl;obtain⟨Q,E⟩: ∃Q:List Qd,Q=[⟨1,true,.func (.func 89) #[ptrTo b] #[],fo I.g⟩,⟨2,I.T.isSome,.func (.func 90) #[ptrTo b] #[],tabO I.T⟩,⟨3,I.C.isSome,.func (.func 91) #[ptrTo b] #[],match I.C with|some c=>gc c.1|none=>[]⟩,⟨4,I.C.isSome,.func (.func 92) #[] #[ptrTo Z],match I.C with|some c=>c.2|none=>[]⟩]:=⟨_,rfl⟩;have lQ:Q.length=4:=by rw [E];rfl
 have sQ:kT Q=eO I:=by rw [E];unfold kT eO tabO;cases I.T<;>cases I.C<;>rfl
 have fQ: ∀q∈Q,Fl q.f:=by intro q A;rw [E]at A;simp only [XF,Xy,or_false]at A;rcases A with rfl|rfl|rfl|rfl<;>exact iq
 rename Hp=>hS;have cQ: ∀q∈Q,q.is=true-> ∃g a c,q.f=.func (.func g) a c/\ ∀s,Gr hS s->Ret zB g (a.toList++c.toList) s fun r O=>Gr s O/\r=sv q.body:=by
  intro q A p;rw [E]at A;simp only [XF,Xy,or_false]at A;rcases A with rfl|rfl|rfl|rfl
  . exact⟨_,_,_,rfl,fun s g=>graphS_ok g.ok (K.gr (z.trans g))⟩
  . cases C:I.T with
    |none=>rw [C]at p;cases p
    |some T=>exact⟨_,_,_,rfl,fun s g=>marksS_ok g.ok C (K.gr (z.trans g))⟩
  . cases u:I.C with
    |none=>rw [u]at p;cases p
    |some c=>obtain⟨m,F⟩:=c;exact⟨_,_,_,rfl,fun s g=>cellsS_ok g.ok u (K.gr (z.trans g))⟩
  . cases u:I.C with
    |none=>rw [u]at p;cases p
    |some c=>obtain⟨m,F⟩:=c;exact⟨_,_,_,rfl,fun s g=>iZ (sec1_ok g.ok u (K.gr (z.trans g)) (g.load D)) fun v s e=>⟨e.2,e.1⟩⟩
 simp only [BZ];refine av (ax rfl) (q:=0) (ps:=[]) (by kernel_rfl) ?_;simp only [BZ,cls,D,z.load l1,z.load l2,eT,eC,build_q4,seval];replace S:=S.nilG (k:=2);refine az (fun(k:Nat) N h=>k<=4/\ ∃v,St NoM hS h [] [(v,2,(kT (Q.take k)).flatMap encS)]/\N 2=v/\N 31=.agg ⟨Q.flatMap encQ⟩/\N 32=.int .i64 k) (fun k=>4-k) ?_ 0 _ _ ⟨Xf _,_,(St.init z.ok).nilG,by simp [am],by rw [E];simp [am,encQ,al],by simp [am]⟩;clear S;intro k ih N h ⟨hk,v,S,r2,r31,r32⟩;have w:ag .i64 ((k:Int)+1)=((k+1:Nat):Int):=by rw [wrap64]<;>omega
 by_cases hlt:k<4
 . have t:(k:Int)<4:=(by omega);have G:k<Q.length:=(by omega);have mQ:=Xd G;have P:=index_q4 lQ hlt;have R:=fQ _ mQ;have U:=cQ _ mQ;have tk:Q.take (k+1)=Q.take k++[Q[k]]:=Xa G;have V:=(congrArg kT tk).trans (CN _ _);have ln:(kT (Q.take k)).length<=4:=(by unfold kT;rw [XB];exact Xc (List.length_filter_le _ _) (by rw [Xz];omega));generalize Q[k]=q at P R U V;obtain⟨W,is,f,d⟩:=q;simp only [encQ]at P;simp only []at R U;simp only [BZ,r31,r32,t,P,seval];refine ac au S ?_;clear S;intro h H S af;simp only [BZ,seval];refine aw (S.store (i:=0) rfl Tryz.t159.2.1 (by intro x e;cases e) rfl (by simp only [ae,XE,XG,R.2.1,Xi];rfl) (lbt rfl) ono) ?_;clear S;rintro h ⟨S,_⟩;simp only [LC,ae,lay,Xr,Xs,seval]at S;cases is with
   | false=>simp only [BZ,r32,w,S.ld (b:=H) (o:=1) m0 rfl,seval];have S:=S.drop1;rw [show kT (Q.take k)=kT (Q.take (k+1)) by rw [V];simp]at S;exact ih (k+1) _ _ (by omega) ⟨by omega,v,S,by simp [am,r2,r31]⟩| true=>
     obtain⟨g,a,c,rfl,hr⟩:=U rfl;simp only [BZ,S.ld (b:=H) (o:=1) m0 rfl,seval];refine av (ax rfl) (q:=128) (ps:=[(2,5)]) (by kernel_rfl) ?_;simp only [BZ,cls,r2,S.ld (b:=H) (o:=0) m0 rfl,S.ld (b:=H) (o:=2) m0 rfl,seval];have k4:=S.key_lt (b:=H) (by simp [keys]);refine cg (hr _ S.gr) ?_;rintro _ h5 ⟨g5,rfl⟩;have e5:=aP g5 k4;replace S:=S.call g5;simp only [BZ,cls,pQ (l:=d),seval];refine ec (bg (by exact Tryz.t33.1) (by exact Tryz.e50E) (by decide) (by rfl)) S ?_;clear S;intro h bs S ai ak;simp only [LC,aU,bD,ae,Xl,Xj,Xk,Xo,seval]at S;have J:aC h 2 (.slice (some ⟨bs,0,none⟩) 1 1)=some (1,encS (W,d)):=(by simp only [aC];rw [S.lds (b:=bs) (o:=0) (n:=1*2) m0 (lbt rfl)];rfl);replace S:=S.drop1;simp only [BZ,cls,seval];refine jG (S.grow (j:=0) (m:=1) (new:=encS (W,d)) rfl Tryz.t33.1 Tryz.e50E (by decide) Tryz.t33.2.2.2.2.2 J rfl (by decide) rfl (by rw [aI dE,dE];omega)) ?_;clear S J;rintro h v2 S;simp only [LC]at S;rw [show(kT (Q.take k)).flatMap encS++encS (W,d)=(kT (Q.take (k+1))).flatMap encS by rw [V,Xm];simp]at S;simp only [BZ,cls,r32,seval];refine⟨by simp only [aY,bj,aR,bo,aW,ne_eq,not_false_eq_true,bz,bK,aX,aV,bZ,cw,aS,Xi,r2,r31,r32,al,aT e5,aE e5,seval],?_⟩;simp only [w];exact ih (k+1) _ _ (by omega) ⟨by omega,v2,S.drop1,by simp [am,r31]⟩
 . have t: ¬(k:Int)<4:=(by omega);rw [XC (by omega),sQ]at S;simp only [BZ,ab,r2,r32,t,seval];exact⟨z.trans S.gr,(S.gown _ m0).1.sl rfl dE (by decide)⟩
theorem secsI_len(I:Img):(eO I).length<=4:=by unfold eO;cases I.T<;>cases I.C<;>simp
theorem yA(I:Img): ∀x∈eO I,x.1<256:=by unfold eO;cases I.T<;>cases I.C<;>simp
theorem BV{a:Hp}(c:a.t.Sized a.n){b:Nat}{I:Img}(i:lN a b I)(d:((eO I).flatMap Prod.snd).length<=100000):Ret zB 8 [ptrTo b] a fun r f=>Gr a f/\r=.tuple #[sv (cy (eO I)),.int .i64 0]:=by have S:=Si c;refine aa (n:=16) (rs:=[.tmp 2,.tmp 3]) rfl Tryz.e8 rfl rfl rfl (lbt rfl) ?_;simp only [BZ,seval];refine ah (right_ok S.ok (i.gr S.gr)) ?_;intro h g;replace S:=S.call g;clear g;simp only [BZ,seval];refine step_ret (Ce S.ok (i.gr S.gr)) ?_;intro v h ⟨g,s1⟩;replace S:=S.call g;clear g;simp only [BZ,seval];refine step_ret (encode_ok S.ok s1 (by have:=secsI_len I;omega) (yA I) d) ?_;intro v h ⟨g,e⟩;replace S:=S.call g;clear g;subst e;simp only [BZ,ab,seval];exact S.gr
end Go.Ab
end

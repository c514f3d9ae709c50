/- Nets, cells, flags: what the functions do (part 4). -/
import Derived.Test.YtnandelhggbchaaGreatDoorNetC
open Go.Ab.Tryz
open Go.Ab.Tryz renaming abEnv->zM,e3E->Xp,e85->XX
open List renaming range->zO,getD_eq_getElem?_getD->Xa,getElem?_eq_getElem->Xc,take_succ_eq_append_getElem->Xe,getElem_mem->Xf,getElem?_map->Xi,getElem?_append_left->Xk,take_length->Xn,length_append->Xo,not_mem_nil->Xt,getElem?_append_right->Xu,take->Xx,drop->Xy,append_nil->Xz,length_map->XB,mem_append->XC,filterMap_nil->XF,set_cons_zero->XG,mem_singleton->XH,mem_cons->XJ,drop_eq_getElem_cons->XM,map_const'->XS,take_of_length_le->XU,flatMap_eq_foldl->XV,map_cons->XZ,map_eq_flatMap->X2,filterMap_cons->X3,flatMap_append->X4,map_nil->X5
open Nat renaming lt_of_lt_of_le->Xb,le_trans->Xd,zero_le->Xg,lt_of_succ_le->Xj,le_refl->Xl,zero_add->Xm,mul_one->Xq,zero_mul->Xr,mul_le_mul_right->Xs,one_mul->Xv,lt_of_le_of_lt->Xw,and_le_left->XA,testBit_two_pow->XD,xor_lt_two_pow->XE,add_comm->XN,le_mul_of_pos_right->XP,add_sub_cancel_left->XQ,testBit_and->XR,zero_ne_one->XT,blt_eq->XW,land->X6
open Int renaming toNat_natCast->Xh,tdiv_eq_ediv_of_nonneg->XI,eq_ofNat_of_zero_le->XO
open Bool renaming and_true->XK,true_and->XY
open Function renaming comp_def->XL
set_option maxHeartbeats 4000000
set_option linter.defProp false
set_option linter.unusedVariables false
set_option linter.unusedSimpArgs false
section
namespace Go.Ab
open Go.Proofs
set_option maxRecDepth 10000
def Tryz.F09:=aj t1<|aj t2<|aj t3<|aj t4<|aj t24<|aj Z0<|aj t32<|aj t33<|aj t51<|aj t59<|aj t127<|aj t129<|aj Z5<|aj t189<|Z1
def Tryz.F0P:=aj t1<|aj t2<|aj t3<|aj t4<|aj t24<|aj t33<|aj t51<|aj t59<|Z5
def Tryz.F0Q:=aj t1<|aj t2<|aj t3<|aj t4<|aj t24<|aj t33<|aj t51<|aj t59<|Z5
def Tryz.F0R:=aj t1<|aj t2<|aj t3<|aj t24<|aj t33<|aj t51<|aj t59<|Z5
def Tryz.F0S:=aj t1<|aj t2<|aj t3<|aj t24<|aj t33<|aj t51<|aj t59<|Z5
def Tryz.Fu:=aj t1<|aj t2<|aj t3<|aj t4<|aj t24<|aj t33<|aj t51<|aj t59<|aj Z5<|t312
noncomputable def toR(a:Gra)(l:List Int)(i:Nat):List Int:=rowD (seen a.arcs Arc.t Arc.s) a.nodes (l.getD i 0).toNat
noncomputable def frR(a:Gra)(l:List Int)(i:Nat):List Int:=rowD (seen a.arcs Arc.s Arc.t) a.nodes (l.getD i 0).toNat
theorem zk{h0:Hp}(z:h0.t.Sized h0.n){k:Gra}(q:Good k){A G:Value}{I:Nat}(t:aV h0 I A k){l:List Int}(o:av h0 1 (encI .i64) G l)(f:l.length<1000):
 Ret zM 12 [A,G] h0 fun r H=>Gr h0 H/\((¬gT k.nodes l/\r=.pointer none)\/(gT k.nodes l/\TabAt H h0.n r k.nodes l (toR k l) (frR k l))):=by
 have S:=Si z
 obtain⟨N,rfl⟩: ∃b,A=ptrTo b:=by obtain⟨b,_,_,_,_,_,e,_⟩:=t.ex;exact⟨b,e⟩
 refine ac (n:=28) (rs:=[.tmp 4]) rfl Tryz.e12 rfl rfl rfl (lbt rfl) ?_
 simp only [BS,LB,Nat.reduceLT,Nat.reduceEqDiff,F09]
 refine am (cC S.ok (t.gr S.gr)) ?_;intro h g;replace S:=S.call g;clear g
 simp only [BS,LB,Nat.reduceLT,Nat.reduceEqDiff]
 refine am (may_ok S.ok (o.gr S.gr) (by omega)) ?_;intro h g;replace S:=S.call g;clear g
 by_cases j:gT k.nodes l
 . have B:decide (gT k.nodes l)=true:=decide_eq_true j
   simp only [BS,LB,Nat.reduceLT,Nat.reduceEqDiff,B]
   refine am (cC S.ok (t.gr S.gr)) ?_;intro h g;replace S:=S.call g;clear g
   simp only [BS,LB,Nat.reduceLT,Nat.reduceEqDiff]
   have J:=S.fr.n
   refine step_ret (jo S.ok (bK .i64) (o.gr S.gr) (by omega)) ?_;intro v h ⟨g,d,hM⟩;replace S:=S.call g;clear g
   rename Value=>vM
   obtain⟨O,P,Q,rfl⟩:=d.form
   simp only [BS,LB,Nat.reduceLT,Nat.reduceEqDiff]
   refine step_ret (rows_ok S.ok ct o.fl gY) ?_;intro v h ⟨g,b1,b2,b3,e,q1,q2,q3,y1,y2,y3⟩;replace S:=S.call g;replace d:=d.gr g;clear g
   subst e
   simp only [BS,LB,Nat.reduceLT,Nat.reduceEqDiff]
   have y:=rows_it z S.ok S.gr.keep S.fr.n t (o.gr S.gr) (fun i u=>⟨(j.2 i u).1,(j.2 i u).2.1⟩) f (runTo q) (m:=h0.n) S.fr.n y1 y2 y3
   refine step_ret (uD S.ok y S.fr.n f) ?_;intro v h ⟨g,p⟩;replace S:=S.call g;replace d:=d.gr g;clear g
   rename Value=>vT
   obtain⟨R,T,U,rfl⟩: ∃a n c,vT=.slice a n c:=by obtain⟨_,s,_⟩:=p;exact s.form
   clear y y1 y2 y3 q1 q2 q3
   simp only [BS,LB,Nat.reduceLT,Nat.reduceEqDiff]
   refine step_ret (rows_ok S.ok ct o.fl gY) ?_;intro v h ⟨g,b1,b2,b3,e,q1,q2,q3,y1,y2,y3⟩;replace S:=S.call g;replace d:=d.gr g;replace p:=p.gr g;clear g
   subst e
   simp only [BS,LB,Nat.reduceLT,Nat.reduceEqDiff]
   have y:=rows_it z S.ok S.gr.keep S.fr.n t (o.gr S.gr) (fun i u=>⟨(j.2 i u).1,(j.2 i u).2.1⟩) f (runFrom q) (m:=h0.n) S.fr.n y1 y2 y3
   refine step_ret (uD S.ok y S.fr.n f) ?_;intro v h ⟨g,L2⟩;replace S:=S.call g;replace d:=d.gr g;replace p:=p.gr g;clear g
   rename Value=>vF
   obtain⟨V,W,X,rfl⟩: ∃a n c,vF=.slice a n c:=by obtain⟨_,s,_⟩:=L2;exact s.form
   simp only [BS,LB,Nat.reduceLT,Nat.reduceEqDiff,Nat.reduceAdd,F09]
   have K:=S
   replace S:=S.base
   refine ag (bg (by intro x e;cases e)) S ?_;clear S;intro h b S L;simp only [ah]at S
   simp only [BS,LB,ab,Nat.reduceLT,Nat.reduceEqDiff]
   have C:=S.fr
   have w:=d.mo C (fun c _ j=>by cases j)
   have D:=p.mo C (fun c j=>by cases j)
   have E:=L2.mo C (fun c j=>by cases j)
   have F:=S.row (b:=b) m0
   replace S:=K.rebase S
   exact⟨S.gr,.inr ⟨j,⟨b,_,_,_,rfl,F,w,D,E,(S.own _ m0).1.elim (fun h=>h) (fun h=>h.elim),fun c M=>Xd J (hM c M)⟩⟩⟩
 . have B:decide (gT k.nodes l)=false:=decide_eq_false j
   simp only [BS,LB,ab,Nat.reduceLT,Nat.reduceEqDiff,B]
   exact⟨S.gr,.inl j⟩
theorem pO{h0:Hp}(a:h0.t.Sized h0.n){m N:Nat}{p:Value}{l:List Int}{R Q:Nat->List Int}(t:TabAt h0 m p N l R Q):aK zM 112 [p] h0 (.int .i64 N):=by
 have S:=Si a
 obtain⟨b,e,f,g,rfl,c,_⟩:=t.ex
 have d:=c.load1 (o:=0) rfl
 refine ac (n:=9) (rs:=[.tmp 2]) rfl Tryz.e112 rfl rfl rfl (lbt rfl) ?_
 simp only [BS,LB,ab,Nat.reduceLT,Nat.reduceEqDiff,F0P,d]
 exact S.gr
theorem mE{h0:Hp}(e:h0.t.Sized h0.n){m N:Nat}{p:Value}{l:List Int}{R Q:Nat->List Int}(t:TabAt h0 m p N l R Q)(a:l.length<1000):Ret zM 81 [p] h0 fun r d=>Gr h0 d/\av d 1 (encI .i64) r l/\ ∀c,ar r c->h0.n<=c:=by
 have S:=Si e
 obtain⟨b,k,q,s,rfl,f,i,_⟩:=t.ex
 have j:=f.load1 (o:=1) rfl
 refine ac (n:=10) (rs:=[.tmp 2]) rfl Tryz.e81 rfl rfl rfl (lbt rfl) ?_
 simp only [BS,LB,Nat.reduceLT,Nat.reduceEqDiff,F0Q,j]
 refine step_ret (jo S.ok (bK .i64) i (by omega)) ?_;intro v h ⟨g,sl,hc⟩;replace S:=S.call g;clear g
 simp only [BS,LB,ab,Nat.reduceLT,Nat.reduceEqDiff]
 exact⟨S.gr,sl,hc⟩
def ip(N n:Nat)(R:Nat->List Int)(i v:Int):Int:=if 0<=i/\i<n/\0<=v/\v<N then(R i.toNat).getD v.toNat 0 else 72057594037927936
theorem tos_ok{h0:Hp}(c:h0.t.Sized h0.n){m N:Nat}{p:Value}{l:List Int}{R Q:Nat->List Int}(t:TabAt h0 m p N l R Q):Ret zM 224 [p] h0 fun r a=>Gr h0 a/\gp a m r l.length R:=by
 have S:=Si c
 obtain⟨b,f,g,h,rfl,d,_,L,_⟩:=t.ex
 have e:=d.load1 (o:=2) rfl
 refine ac (n:=7) (rs:=[.tmp 2]) rfl Tryz.e224 rfl rfl rfl (lbt rfl) ?_
 simp only [BS,LB,ab,Nat.reduceLT,Nat.reduceEqDiff,F0R,e]
 exact⟨S.gr,L⟩
theorem froms_ok{h0:Hp}(c:h0.t.Sized h0.n){m N:Nat}{p:Value}{l:List Int}{R Q:Nat->List Int}(t:TabAt h0 m p N l R Q):Ret zM 225 [p] h0 fun r a=>Gr h0 a/\gp a m r l.length Q:=by
 have S:=Si c
 obtain⟨b,f,g,h,rfl,d,_,_,L,_⟩:=t.ex
 have e:=d.load1 (o:=3) rfl
 refine ac (n:=7) (rs:=[.tmp 2]) rfl Tryz.e225 rfl rfl rfl (lbt rfl) ?_
 simp only [BS,LB,ab,Nat.reduceLT,Nat.reduceEqDiff,F0S,e]
 exact⟨S.gr,L⟩
theorem y9{h0:Hp}(z:h0.t.Sized h0.n){m N:Nat}{p:Value}{l:List Int}{R Q W:Nat->List Int}(t:TabAt h0 m p N l R Q){g:FuncId}(A: ∀h,Gr h0 h->Ret zM g [p] h fun r s=>Gr h s/\gp s m r l.length W)(B: ∀i,i<l.length->(W i).length=N){i v:Int}:
 aK zM 223 [p,.func (.func g) #[p] #[],.int .i64 i,.int .i64 v] h0 (.int .i64 (ip N l.length W i v)):=by
 have S:=Si z
 obtain⟨b,I,J,K,rfl,u,e,_⟩:=t.ex
 have x:=u.load1 (o:=0) rfl
 have f:=u.load1 (o:=1) rfl
 unfold ip
 refine ac (n:=44) (rs:=[.tmp 8]) rfl Tryz.e223 rfl rfl rfl (lbt rfl) ?_
 by_cases a:i<0
 . rw [if_neg (by omega)]
   simp only [BS,LB,ab,Nat.reduceLT,Nat.reduceEqDiff,Fu,a]
   exact S.gr
 . by_cases j:(l.length:Int)<=i
   . rw [if_neg (by omega)]
     simp only [BS,LB,ab,Nat.reduceLT,Nat.reduceEqDiff,Fu,f,a,j,e.lenq]
     exact S.gr
   . by_cases q:v<0
     . rw [if_neg (by omega)]
       simp only [BS,LB,ab,Nat.reduceLT,Nat.reduceEqDiff,Fu,f,a,j,q,e.lenq]
       exact S.gr
     . by_cases y:(N:Int)<=v
       . rw [if_neg (by omega)]
         simp only [BS,LB,ab,Nat.reduceLT,Nat.reduceEqDiff,Fu,x,f,a,j,q,y,e.lenq]
         exact S.gr
       . rw [if_pos (by omega)]
         obtain⟨d,rfl⟩:=XO (show 0<=i by omega)
         obtain⟨k,rfl⟩:=XO (show 0<=v by omega)
         simp only [BS,LB,Nat.reduceLT,Nat.reduceEqDiff,Fu,x,f,a,j,q,y,e.lenq]
         refine step_ret (A _ S.gr) ?_;intro v h ⟨g,L⟩;replace S:=S.call g;clear g
         obtain⟨w,⟨c,o,C,D⟩,sw,_⟩:=L.row (i:=d) (by omega)
         have E:=B d (by omega)
         obtain⟨M,O,F,G⟩:=sw.ix (kd:=.i64) (bK .i64) (i:=k) (by omega)
         have H:(W d).getD k 0=(W d)[k]:=by simp [Xa,show k<(W d).length by omega]
         simp only [BS,LB,ab,Nat.reduceLT,Nat.reduceEqDiff,Fu,C,D,F,G,encI,Xh,H]
         exact S.gr
theorem yS{h0:Hp}(a:h0.t.Sized h0.n){m N:Nat}{p:Value}{l:List Int}{R Q:Nat->List Int}(t:TabAt h0 m p N l R Q)(b: ∀i,i<l.length->(R i).length=N){i v:Int}:aK zM 161 [p,.int .i64 i,.int .i64 v] h0 (.int .i64 (ip N l.length R i v)):=by
 have S:=Si a
 refine ac (n:=13) (rs:=[.tmp 6]) rfl Tryz.e161 rfl rfl rfl (lbt rfl) ?_
 simp only [BS,LB,Nat.reduceLT,Nat.reduceEqDiff]
 refine am (y9 S.ok t (fun h g=>tos_ok g.ok (t.gr g)) b) ?_;intro h g;replace S:=S.call g;clear g
 simp only [BS,LB,ab,Nat.reduceLT,Nat.reduceEqDiff]
 exact S.gr
theorem uk{h0:Hp}(a:h0.t.Sized h0.n){m N:Nat}{p:Value}{l:List Int}{R Q:Nat->List Int}(t:TabAt h0 m p N l R Q)(b: ∀i,i<l.length->(Q i).length=N){i v:Int}:aK zM 163 [p,.int .i64 i,.int .i64 v] h0 (.int .i64 (ip N l.length Q i v)):=by
 have S:=Si a
 refine ac (n:=13) (rs:=[.tmp 6]) rfl Tryz.e163 rfl rfl rfl (lbt rfl) ?_
 simp only [BS,LB,Nat.reduceLT,Nat.reduceEqDiff]
 refine am (y9 S.ok t (fun h g=>froms_ok g.ok (t.gr g)) b) ?_;intro h g;replace S:=S.call g;clear g
 simp only [BS,LB,ab,Nat.reduceLT,Nat.reduceEqDiff]
 exact S.gr
end Go.Ab
end
section
namespace Go.Ab
theorem St.growB{M:Nat->Prop}{h0 h:Hp}{L:List (Nat×Ob)}{G:List GL}(S:St M h0 h L G){E:Env}{t w e:TypeId}{f k m len b md:Nat}{y vs new:List Value}{x:Value}(C:Row h b vs md)(a:len*k=vs.length)(D:E.und t=some (.slice e))(F:d9 E e f k y)(H:0<f)
 (q:dz E w=some false) (g:aJ h k x=some (m,new)) (z:m*k=new.length) (I:0<m) (A:0<k) (r:(vs.length+new.length)*(f+1)<=70368744177664) {ts:List TypeId}:
 ∃B v',cU E h (t::w::ts) (.slice (some ⟨b,0,none⟩) len len) x=some (B,v')/\St M h0 B L ((v',k,vs++new)::G):=by
 obtain⟨⟨i,J,rfl,rfl⟩,K,N⟩:=F
 obtain⟨p,el,j,d,s⟩:=C
 have l:Nat.ble (len+m) len=false:=by
  cases q:Nat.ble (len+m) len with
  |false=>rfl
  |true=>exact absurd (lbt q) (by omega)
 have o:len+m<=vs.length+new.length:=by
  rw [<-a,<-z]
  have I:=XP len A
  have O:=XP m A
  omega
 have c:(Nat.ble ((len+m)*(i.bytes+1)) 70368744177664&&Nat.blt 0 i.bytes)=true:=by
  rw [Nat.ble_eq_true_of_le (Xd (Xs _ o) r)]
  simp only [XY]
  rw [XW];exact H
 have u:Nat.beq y.length i.size=true:=by rw [N];exact Nat.beq_refl _
 have v:ja p vs.length 0 (len*i.size) new=some (p.pushAll vs.length new,vs.length+new.length):=by
  unfold ja
  rw [a,Nat.beq_refl vs.length]
  rfl
 refine⟨h.new (.cells (p.pushAll vs.length new) (vs.length+new.length) e 1),.slice (some ⟨h.n,0,some i.size⟩) (len+m) (len+m),?_,S.newG (n:=len+m) ?_ ?_⟩
 . unfold cU
   simp only [q]
   unfold jm
   simp only [D,J,g]
   unfold eG
   rw [l]
   simp only [cond_false]
   rw [c,K]
   simp only [cond_true,u]
   unfold mF
   simp only [j,v]
 . rw [Nat.add_mul,a,z,Xo]
 . refine⟨p.pushAll vs.length new,e,?_,?_,fun n=>?_⟩
   . rw [Hp.get_new _ _ S.ok,if_pos rfl,Xo]
   . rw [Xo];exact Tr.sized_pushAll _ d
   . rw [Tr.get_pushAll _ _ _ d,List.getElem?_append]
     split
     . exact s n
     . rfl
end Go.Ab

end
section
namespace Go.Ab
open Go.Proofs
set_option maxRecDepth 10000
def Tryz.F0a:=aj t1<|aj t2<|aj t3<|aj t4<|aj t33<|aj t51<|aj t59<|aj Z5<|aj t215<|t246
def Tryz.F0b:=aj t1<|aj t2<|aj t3<|aj t4<|aj t5<|aj t6<|aj t33<|aj t51<|aj t59<|Z5
theorem ij{h0:Hp}(a:h0.t.Sized h0.n){m N:Nat}{p:Value}{l:List Int}{R Q:Nat->List Int}(t:TabAt h0 m p N l R Q){v:Int}:aK zM 124 [p,.int .i64 v] h0 (.bool (decide (0<=v/\v<N))):=by
 have S:=Si a
 refine ac (n:=13) (rs:=[.tmp 4]) rfl Tryz.e124 rfl rfl rfl (lbt rfl) ?_
 by_cases c:0<=v
 . simp only [BS,LB,Nat.reduceLT,Nat.reduceEqDiff,c]
   refine am (pO S.ok (t.gr S.gr)) ?_;intro h g;replace S:=S.call g;clear g
   simp only [BS,LB,ab,Nat.reduceLT,Nat.reduceEqDiff]
   exact S.gr
 . simp only [BS,LB,ab,Nat.reduceLT,Nat.reduceEqDiff,c]
   exact⟨by simp,S.gr⟩
theorem wayTo_ok{h0:Hp}(b:h0.t.Sized h0.n){m N:Nat}{p:Value}{l:List Int}{R Q:Nat->List Int}(t:TabAt h0 m p N l R Q)(a: ∀i,i<l.length->(R i).length=N){i v w:Int}:
 aK zM 160 [.func (.func 161) #[p] #[],.func (.func 162) #[] #[],.int .i64 i,.int .i64 v,.int .i64 w] h0 (.int .i64 (lowD (ip N l.length R i v) (ip N l.length R i w))):=by
 have S:=Si b
 refine ac (n:=21) (rs:=[.tmp 10]) rfl Tryz.e160 rfl rfl rfl (lbt rfl) ?_
 simp only [BS,LB,Nat.reduceLT,Nat.reduceEqDiff]
 refine am (yS S.ok (t.gr S.gr) a) ?_;intro h g;replace S:=S.call g;clear g
 simp only [BS,LB,Nat.reduceLT,Nat.reduceEqDiff]
 refine am (yS S.ok (t.gr S.gr) a) ?_;intro h g;replace S:=S.call g;clear g
 simp only [BS,LB,Nat.reduceLT,Nat.reduceEqDiff]
 refine am (low_ok S.ok) ?_;intro h g;replace S:=S.call g;clear g
 simp only [BS,LB,ab,Nat.reduceLT,Nat.reduceEqDiff]
 exact S.gr
theorem wayFr_ok{h0:Hp}(b:h0.t.Sized h0.n){m N:Nat}{p:Value}{l:List Int}{R Q:Nat->List Int}(t:TabAt h0 m p N l R Q)(a: ∀i,i<l.length->(Q i).length=N){i v w:Int}:
 aK zM 160 [.func (.func 163) #[p] #[],.func (.func 164) #[] #[],.int .i64 i,.int .i64 v,.int .i64 w] h0 (.int .i64 (lowD (ip N l.length Q i w) (ip N l.length Q i v))):=by
 have S:=Si b
 refine ac (n:=21) (rs:=[.tmp 10]) rfl Tryz.e160 rfl rfl rfl (lbt rfl) ?_
 simp only [BS,LB,Nat.reduceLT,Nat.reduceEqDiff]
 refine am (uk S.ok (t.gr S.gr) a) ?_;intro h g;replace S:=S.call g;clear g
 simp only [BS,LB,Nat.reduceLT,Nat.reduceEqDiff]
 refine am (uk S.ok (t.gr S.gr) a) ?_;intro h g;replace S:=S.call g;clear g
 simp only [BS,LB,Nat.reduceLT,Nat.reduceEqDiff]
 refine am (lift_ok S.ok) ?_;intro h g;replace S:=S.call g;clear g
 simp only [BS,LB,ab,Nat.reduceLT,Nat.reduceEqDiff]
 exact S.gr
def mP(N n:Nat)(R Q:Nat->List Int)(i v w:Int):Int:=if(0<=v/\v<N)/\(0<=w/\w<N)/\0<=i/\i<n then max (lowD (ip N n R i v) (ip N n R i w)) (lowD (ip N n Q i w) (ip N n Q i v))else 0
theorem vV{h0:Hp}(f:h0.t.Sized h0.n){m N:Nat}{p:Value}{l:List Int}{R Q:Nat->List Int}(t:TabAt h0 m p N l R Q)(j: ∀i,i<l.length->(R i).length=N)(k: ∀i,i<l.length->(Q i).length=N)(d:l.length<1000){i v w:Int}:
 aK zM 85 [p,.int .i64 i,.int .i64 v,.int .i64 w] h0 (.int .i64 (mP N l.length R Q i v w)):=by
 have S:=Si f
 by_cases a:0<=v/\v<N
 . by_cases b:0<=w/\w<N
   . by_cases c:i<0
     . rw [show mP N l.length R Q i v w=0 from if_neg (by omega)]
       refine ac (n:=43) (rs:=[.tmp 8]) rfl XX rfl rfl rfl (lbt rfl) ?_
       simp only [BS,LB,Nat.reduceLT,Nat.reduceEqDiff]
       refine am (ij S.ok (t.gr S.gr)) ?_;intro h g;replace S:=S.call g;clear g
       simp only [BS,LB,Nat.reduceLT,Nat.reduceEqDiff,a]
       refine am (ij S.ok (t.gr S.gr)) ?_;intro h g;replace S:=S.call g;clear g
       simp only [BS,LB,ab,Nat.reduceLT,Nat.reduceEqDiff,b,c]
       exact S.gr
     . by_cases e:(l.length:Int)<=i
       . rw [show mP N l.length R Q i v w=0 from if_neg (by omega)]
         refine ac (n:=43) (rs:=[.tmp 8]) rfl XX rfl rfl rfl (lbt rfl) ?_
         simp only [BS,LB,Nat.reduceLT,Nat.reduceEqDiff]
         refine am (ij S.ok (t.gr S.gr)) ?_;intro h g;replace S:=S.call g;clear g
         simp only [BS,LB,Nat.reduceLT,Nat.reduceEqDiff,a]
         refine am (ij S.ok (t.gr S.gr)) ?_;intro h g;replace S:=S.call g;clear g
         simp only [BS,LB,Nat.reduceLT,Nat.reduceEqDiff,b,c]
         refine step_ret (mE S.ok (t.gr S.gr) d) ?_;intro v h ⟨g,slM,_⟩;replace S:=S.call g;clear g
         simp only [BS,LB,ab,Nat.reduceLT,Nat.reduceEqDiff,F0a,e,slM.lenq]
         exact S.gr
       . rw [show mP N l.length R Q i v w=max (lowD (ip N l.length R i v) (ip N l.length R i w)) (lowD (ip N l.length Q i w) (ip N l.length Q i v))from if_pos ⟨a,b,by omega,by omega⟩]
         refine ac (n:=43) (rs:=[.tmp 8]) rfl XX rfl rfl rfl (lbt rfl) ?_
         simp only [BS,LB,Nat.reduceLT,Nat.reduceEqDiff]
         refine am (ij S.ok (t.gr S.gr)) ?_;intro h g;replace S:=S.call g;clear g
         simp only [BS,LB,Nat.reduceLT,Nat.reduceEqDiff,a]
         refine am (ij S.ok (t.gr S.gr)) ?_;intro h g;replace S:=S.call g;clear g
         simp only [BS,LB,Nat.reduceLT,Nat.reduceEqDiff,b,c]
         refine step_ret (mE S.ok (t.gr S.gr) d) ?_;intro v h ⟨g,slM,_⟩;replace S:=S.call g;clear g
         simp only [BS,LB,Nat.reduceLT,Nat.reduceEqDiff,F0a,e,slM.lenq]
         refine am (wayTo_ok S.ok (t.gr S.gr) j) ?_;intro h g;replace S:=S.call g;clear g
         simp only [BS,LB,Nat.reduceLT,Nat.reduceEqDiff]
         refine am (wayFr_ok S.ok (t.gr S.gr) k) ?_;intro h g;replace S:=S.call g;clear g
         simp only [BS,LB,ab,Nat.reduceLT,Nat.reduceEqDiff]
         exact S.gr
   . rw [show mP N l.length R Q i v w=0 from if_neg (fun h=>b h.2.1)]
     refine ac (n:=43) (rs:=[.tmp 8]) rfl XX rfl rfl rfl (lbt rfl) ?_
     simp only [BS,LB,Nat.reduceLT,Nat.reduceEqDiff]
     refine am (ij S.ok (t.gr S.gr)) ?_;intro h g;replace S:=S.call g;clear g
     simp only [BS,LB,Nat.reduceLT,Nat.reduceEqDiff,a]
     refine am (ij S.ok (t.gr S.gr)) ?_;intro h g;replace S:=S.call g;clear g
     simp only [BS,LB,ab,Nat.reduceLT,Nat.reduceEqDiff,b]
     exact S.gr
 . rw [show mP N l.length R Q i v w=0 from if_neg (fun h=>a h.1)]
   refine ac (n:=43) (rs:=[.tmp 8]) rfl XX rfl rfl rfl (lbt rfl) ?_
   simp only [BS,LB,Nat.reduceLT,Nat.reduceEqDiff]
   refine am (ij S.ok (t.gr S.gr)) ?_;intro h g;replace S:=S.call g;clear g
   simp only [BS,LB,ab,Nat.reduceLT,Nat.reduceEqDiff,a]
   exact S.gr
def nZ(N n:Nat)(R Q:Nat->List Int)(v w:Int)(l:List Int):Int:=l.foldl (fun b i=>max b (mP N n R Q i v w)) 0
theorem bBest_ok{h0:Hp}(q:h0.t.Sized h0.n){m N:Nat}{p:Value}{l:List Int}{R Q:Nat->List Int}(t:TabAt h0 m p N l R Q)(r: ∀i,i<l.length->(R i).length=N)(s: ∀i,i<l.length->(Q i).length=N)(u:l.length<1000){e:Value}{a:List Int}(j:av h0 1 (encI .i64) e a)(x:a.length<1000){v w:Int}:
 aK zM 129 [p,e,.int .i64 v,.int .i64 w] h0 (.int .i64 (nZ N l.length R Q v w a)):=by
 have S:=Si q
 refine ac (n:=26) (rs:=[.tmp 8]) rfl Tryz.e129 rfl rfl rfl (lbt rfl) ?_
 simp only [BS,LB,Nat.reduceLT,Nat.reduceEqDiff,F0b,j.lenq]
 refine aQ (fun(k:Nat) b h=>k<=a.length/\Gr h0 h/\b 0=p/\b 2=.int .i64 v/\b 3=.int .i64 w/\b 8=.int .i64 (nZ N l.length R Q v w (a.take k))/\b 11=e/\b 12=.int .i64 a.length/\b 13=.int .i64 k) (fun k=>a.length-k) ?_ 0 _ _ ?_
 . clear S
   intro k y b h ⟨hk,g0,r0,r2,r3,r8,r11,r12,r13⟩
   have z:an .i64 ((k:Int)+1)=((k+1:Nat):Int):=by rw [wrap64]<;>omega
   by_cases hlt:k<a.length
   . obtain⟨c,o,d,f⟩:=(j.gr g0).ix (kd:=.i64) (bK .i64) hlt
     simp only [BS,LB,Nat.reduceLT,Nat.reduceEqDiff,F0b,r0,r2,r3,r8,r11,r12,r13,aA,hlt,d,f,encI]
     refine am (vV g0.ok (t.gr g0) r s u) ?_
     intro h g
     simp only [BS,LB,Nat.reduceLT,Nat.reduceEqDiff,r13,z]
     refine y (k+1) _ _ (by omega) ⟨by omega,g0.trans g,by simp [aa,r0],by simp [aa,r2],by simp [aa,r3],?_,by simp [aa,r11],by simp [aa,r12],by simp [aa]⟩
     rw [Xe hlt]
     unfold nZ
     rw [List.foldl_append]
     simp [aa]
   . simp only [BS,LB,ab,Nat.reduceLT,Nat.reduceEqDiff,r8,r12,r13,aA,hlt]
     rw [XU (by omega)]
     exact⟨rfl,g0⟩
 . exact⟨Xg _,S.gr,by simp [aa,aP],by simp [aa,aP,bW],by simp [aa,aP,bW],by simp [aa,nZ],by simp [aa],by simp [aa],by simp [aa]⟩
theorem yh(B:List Arc)(N s:Nat):(rowD B N s).length=N:=by simp [rowD]
end Go.Ab
end
section
namespace Go.Ab
end Go.Ab

end
section
namespace Go.Ab
structure Ev2 where
 kind:Nat
 side:Bool
 id:Nat
 lab:Nat
structure Sd where
 K:Nat->Option Int
 L:Nat->Option Nat
 P:Nat->List Nat
 O:List Nat
structure Bi where
 sd:Bool->Sd
 ev:List Ev2
 dist:Nat
 meet:Nat
def fsB(i:Bool):Arc->Nat:=if i then Arc.t else Arc.s
def ftB(i:Bool):Arc->Nat:=if i then Arc.s else Arc.t
def qB(pi:Nat->Int)(i:Bool)(v:Nat):Int:=if i then-pi v else pi v
def OpB(pi:Nat->Int)(v:Nat):Prop:= -(FAR:Int)<pi v/\pi v<(FAR:Int)
instance (pi:Nat->Int)(v:Nat):Decidable (OpB pi v):=by unfold OpB;infer_instance
def iA(f:Bool->Sd)(i:Bool)(x:Sd):Bool->Sd:=fun j=>if j=i then x else f j
def leO(o:Option Nat)(lab:Nat):Bool:=match o with
 |some w=>decide (w<=lab)
 |none=>false
def meetB(o:Option Nat)(σ:Bi)(v lab:Nat):Bi:=match o with
 |some m=>if lab+m<σ.dist then⟨σ.sd,σ.ev,lab+m,v⟩else σ
 |none=>σ
def fG(pi:Nat->Int)(x:Sd)(i:Bool)(v lab:Nat)(p:List Nat):Sd:=⟨cL x.K v (some (2*lab+qB pi i v)),fun u=>if u=v then some lab else x.L u,ky x.P v p,x.O⟩
def reachB(pi:Nat->Int)(i:Bool)(σ:Bi)(v lab:Nat)(p:List Nat):Bi:=
 if v∈(σ.sd i).O\/ ¬OpB pi v\/leO ((σ.sd i).L v) lab=true then σ else meetB ((σ.sd (!i)).L v) ⟨iA σ.sd i (fG pi (σ.sd i) i v lab p),σ.ev,σ.dist,σ.meet⟩ v lab
theorem rF{f:Bool->Sd}{i:Bool}{x:Sd}:iA f i x i=x:=if_pos rfl
theorem updS_not{f:Bool->Sd}{i:Bool}{x:Sd}:iA f i x (!i)=f (!i):=if_neg (by cases i<;>decide)
theorem updS_ne{f:Bool->Sd}{i j:Bool}{x:Sd}(h:j≠i):iA f i x j=f j:=if_neg h
section
variable{A:List Arc}{N:Nat}{al:Nat->Bool}{pi:Nat->Int}{σ:Bi}{rt:Bool->Nat}
structure SvB(A:List Arc)(N r:Nat)(al:Nat->Bool)(pi:Nat->Int)(i:Bool)(x:Sd):Prop where
 nd:x.O.Nodup
 lt: ∀v∈x.O,v<N/\x.L v≠none
 op: ∀v k,x.K v=some k->v∉x.O/\ ∃l,x.L v=some l/\k=2*(l:Int)+qB pi i v
 lab: ∀v l,x.L v=some l->v<N/\OpB pi v/\l<=x.O.length*dh/\(x.P v).length<=x.O.length/\(v∈x.O\/x.K v≠none)
 path: ∀v l,x.L v=some l->(v=r/\x.P v=[]/\l=0)\/ ∃a m,a<A.length/\al a=true/\ftB i (A.getD a default)=v/\fsB i (A.getD a default)∈x.O/\x.P v=a::x.P (fsB i (A.getD a default))/\x.L (fsB i (A.getD a default))=some m/\l=m+(A.getD a default).w
structure BiI(A:List Arc)(N:Nat)(rt:Bool->Nat)(al:Nat->Bool)(pi:Nat->Int)(σ:Bi):Prop where
 sv: ∀i,SvB A N (rt i) al pi i (σ.sd i)
 dm:(σ.dist=FAR/\ ∀i v x,(σ.sd i).L v=some x->(σ.sd (!i)).L v=none)\/(∀i,∃x y,(σ.sd i).L σ.meet=some x/\(σ.sd (!i)).L σ.meet=some y/\σ.dist=x+y)
 le: ∀i v x y,(σ.sd i).L v=some x->(σ.sd (!i)).L v=some y->σ.dist<=x+y
theorem SvB.len{r:Nat}{i:Bool}{x:Sd}(h:SvB A N r al pi i x):x.O.length<=N:=oF N x.O h.nd (fun v a=>(h.lt v a).1)
theorem tv{i j:Bool}(h:j≠i):j= !i:=by cases i<;>cases j<;>first|rfl|exact absurd rfl h
theorem SvB.put{r v lab:Nat}{b:Bool}{x:Sd}{p:List Nat}(h:SvB A N r al pi b x)(D:v∉x.O)(q:OpB pi v)(H:v<N)(b1:lab<=x.O.length*dh)(b2:p.length<=x.O.length)
 (g:(v=r/\p=[]/\lab=0)\/ ∃a m,a<A.length/\al a=true/\ftB b (A.getD a default)=v/\fsB b (A.getD a default)∈x.O/\p=a::x.P (fsB b (A.getD a default))/\x.L (fsB b (A.getD a default))=some m/\lab=m+(A.getD a default).w):
 SvB A N r al pi b (fG pi x b v lab p):=by
 have i: ∀{u},u∈x.O->u≠v:=fun j e=>D (e▸j)
 have f: ∀{u},u≠v->(fG pi x b v lab p).L u=x.L u:=fun h=>if_neg h
 have E: ∀{u},u≠v->(fG pi x b v lab p).K u=x.K u:=fun h=>if_neg h
 have n: ∀{u},u≠v->(fG pi x b v lab p).P u=x.P u:=fun h=>if_neg h
 have s:(fG pi x b v lab p).L v=some lab:=if_pos rfl
 have F:(fG pi x b v lab p).K v=some (2*(lab:Int)+qB pi b v):=if_pos rfl
 have G:(fG pi x b v lab p).P v=p:=if_pos rfl
 refine⟨h.nd,fun u j=>⟨(h.lt u j).1,by rw [f (i j)];exact(h.lt u j).2⟩,fun u k o=>?_,fun u l c=>?_,fun u l c=>?_⟩
 . by_cases e:u=v
   . subst e;rw [F]at o;cases o;exact⟨D,lab,s,rfl⟩
   . rw [E e]at o;rw [f e];exact h.op u k o
 . by_cases e:u=v
   . subst e;rw [s]at c;cases c
     exact⟨H,q,b1,by rw [G];exact b2,.inr (by rw [F];nofun)⟩
   . rw [f e]at c;rw [E e,n e];exact h.lab u l c
 . by_cases e:u=v
   . subst e;rw [s]at c;cases c
     rw [G]
     rcases g with g|⟨a,m,t,w,y,d,z,B,C⟩
     . exact .inl g
     . exact .inr ⟨a,m,t,w,y,d,by rw [n (i d)];exact z,by rw [f (i d)];exact B,C⟩
   . rw [f e]at c;rw [n e]
     rcases h.path u l c with g|⟨a,m,t,w,y,d,z,B,C⟩
     . exact .inl g
     . exact .inr ⟨a,m,t,w,y,d,by rw [n (i d)];exact z,by rw [f (i d)];exact B,C⟩
theorem BiI.reach {b:Bool} {v lab:Nat} {p:List Nat} (s:N<=12) (h:BiI A N rt al pi σ) (M:v<N) (b1:lab<=(σ.sd b).O.length*dh) (b2:p.length<=(σ.sd b).O.length)
 (O:(v=rt b/\p=[]/\lab=0)\/ ∃a m,a<A.length/\al a=true/\ftB b (A.getD a default)=v/\fsB b (A.getD a default)∈(σ.sd b).O/\p=a::(σ.sd b).P (fsB b (A.getD a default))/\(σ.sd b).L (fsB b (A.getD a default))=some m/\lab=m+(A.getD a default).w):
 BiI A N rt al pi (reachB pi b σ v lab p):=by
 unfold reachB
 split
 . exact h
 . rename_i I
   simp only [not_or,Decidable.not_not]at I
   obtain⟨Q,G,hle⟩:=I
   have w: ∀i,SvB A N (rt i) al pi i (iA σ.sd b (fG pi (σ.sd b) b v lab p) i):=fun i=>by
    by_cases e:i=b
    . subst e;rw [rF];exact(h.sv i).put Q G M b1 b2 O
    . rw [updS_ne e];exact h.sv i
   have k: ∀u,(iA σ.sd b (fG pi (σ.sd b) b v lab p) (!b)).L u=(σ.sd (!b)).L u:=fun u=>by rw [updS_not]
   have F:(iA σ.sd b (fG pi (σ.sd b) b v lab p) b).L v=some lab:=by rw [rF];exact if_pos rfl
   have r: ∀{u},u≠v->(iA σ.sd b (fG pi (σ.sd b) b v lab p) b).L u=(σ.sd b).L u:=fun {u} e=>by rw [rF];exact if_neg e
   -- the smaller facts, for side b and its opposite
   have R:=h.sv b
   have S:=mR
   have W:=om
   have z: ∀{i u l},(σ.sd i).L u=some l->l<=12*dh:=fun {i u l} T=>by
    have o:=((h.sv i).lab u l T).2.2.1
    have g:=Xs dh (Xd (h.sv i).len s)
    omega
   have J:lab<=12*dh:=by
    have g:=Xs dh (Xd R.len s)
    omega
   have j: ∀{P:Bool->Prop},P b->P (!b)-> ∀i,P i:=fun {P} U V i=>by
    by_cases e:i=b
    . subst e;exact U
    . rw [tv e];exact V
   have n:(!(!b))=b:=by cases b<;>rfl
   cases q:(σ.sd (!b)).L v with
   | none =>
     unfold meetB
     simp only []
     refine⟨w,?_,?_⟩
     . rcases h.dm with⟨K,H⟩|d
       . refine .inl ⟨K,j (P:=fun i=> ∀u x,(iA σ.sd b (fG pi (σ.sd b) b v lab p) i).L u=some x->(iA σ.sd b (fG pi (σ.sd b) b v lab p) (!i)).L u=none) (fun u x c=>?_) (fun u x c=>?_)⟩
         . rw [k]
           by_cases e:u=v
           . subst e;exact q
           . rw [r e]at c;exact H b u x c
         . rw [k]at c
           rw [n]
           by_cases e:u=v
           . subst e;rw [q]at c;cases c
           . rw [r e];have:=H (!b) u x c;rwa [n]at this
       . have B:σ.meet≠v:=fun e=>by
          obtain⟨x,y,_,g,_⟩:=d b
          rw [e,q]at g;cases g
         refine .inr (j (P:=fun i=> ∃x y,(iA σ.sd b (fG pi (σ.sd b) b v lab p) i).L σ.meet=some x/\(iA σ.sd b (fG pi (σ.sd b) b v lab p) (!i)).L σ.meet=some y/\σ.dist=x+y) ?_ ?_)
         . obtain⟨x,y,o,g,t⟩:=d b
           exact⟨x,y,by rw [r B];exact o,by rw [k];exact g,t⟩
         . obtain⟨x,y,o,g,t⟩:=d (!b)
           rw [n]at g
           exact⟨x,y,by rw [k];exact o,by rw [n,r B];exact g,t⟩
     . refine j (P:=fun i=> ∀u x y,(iA σ.sd b (fG pi (σ.sd b) b v lab p) i).L u=some x->(iA σ.sd b (fG pi (σ.sd b) b v lab p) (!i)).L u=some y->σ.dist<=x+y) (fun u x y c f=>?_) (fun u x y c f=>?_)
       . rw [k]at f
         by_cases e:u=v
         . subst e;rw [q]at f;cases f
         . rw [r e]at c;exact h.le b u x y c f
       . rw [k]at c
         rw [n]at f
         by_cases e:u=v
         . subst e;rw [q]at c;cases c
         . rw [r e]at f;exact h.le (!b) u x y c (by rw [n];exact f)
   | some m =>
     have X:=z q
     have L: ∀{i:Bool} {u x y:Nat},(iA σ.sd b (fG pi (σ.sd b) b v lab p) i).L u=some x->(iA σ.sd b (fG pi (σ.sd b) b v lab p) (!i)).L u=some y->(u=v/\x+y=lab+m)\/(u≠v/\σ.dist<=x+y):=fun {i u x y} c f=>by
      by_cases e:u=v
      . subst e
        refine .inl ⟨rfl,?_⟩
        by_cases C:i=b
        . subst C;rw [F]at c;rw [k,q]at f;cases c;cases f;rfl
        . rw [tv C]at c f
          rw [k,q]at c;rw [n,F]at f;cases c;cases f;exact XN _ _
      . refine .inr ⟨e,?_⟩
        by_cases C:i=b
        . subst C;rw [r e]at c;rw [k]at f;exact h.le i u x y c f
        . rw [tv C]at c f
          rw [k]at c;rw [n,r e]at f
          exact h.le (!b) u x y c (by rw [n];exact f)
     unfold meetB
     simp only []
     split
     . rename_i hlt
       refine⟨w,.inr (j (P:=fun i=> ∃x y,(iA σ.sd b (fG pi (σ.sd b) b v lab p) i).L v=some x/\(iA σ.sd b (fG pi (σ.sd b) b v lab p) (!i)).L v=some y/\lab+m=x+y) ⟨lab,m,F,by rw [k];exact q,rfl⟩ ⟨m,lab,by rw [k];exact q,by rw [n];exact F,XN _ _⟩),fun i u x y c f=>?_⟩
       have hlt:lab+m<σ.dist:=hlt
       show lab+m<=x+y
       rcases L c f with⟨_,h⟩|⟨_,h⟩<;>omega
     . rename_i D
       have D: ¬lab+m<σ.dist:=D
       have E: ∀x,(σ.sd b).L v=some x->lab<x:=fun x c=>by
        rw [c]at hle
        simp only [leO,decide_eq_true_eq]at hle
        omega
       refine⟨w,?_,fun i u x y c f=>?_⟩
       . rcases h.dm with⟨K,H⟩|d
         . omega
         . have B:σ.meet≠v:=fun e=>by
            obtain⟨x,y,o,g,t⟩:=d b
            rw [e]at o g
            rw [q]at g;cases g
            have:=E x o
            omega
           refine .inr (j (P:=fun i=> ∃x y,(iA σ.sd b (fG pi (σ.sd b) b v lab p) i).L σ.meet=some x/\(iA σ.sd b (fG pi (σ.sd b) b v lab p) (!i)).L σ.meet=some y/\σ.dist=x+y) ?_ ?_)
           . obtain⟨x,y,o,g,t⟩:=d b
             exact⟨x,y,by rw [r B];exact o,by rw [k];exact g,t⟩
           . obtain⟨x,y,o,g,t⟩:=d (!b)
             rw [n]at g
             exact⟨x,y,by rw [k];exact o,by rw [n,r B];exact g,t⟩
       . show σ.dist<=x+y
         rcases L c f with⟨_,h⟩|⟨_,h⟩<;>omega
end
end Go.Ab

end
section
namespace Go.Ab
open Go.Proofs
set_option maxRecDepth 10000
theorem gT.drop1{N:Nat}{l:List Int}(h:gT N l):gT N (l.drop 1):=by
 refine⟨by rw [List.length_drop];have:=h.1;omega,fun i b=>?_⟩
 rw [List.length_drop]at b
 have e:(l.drop 1).getD i 0=l.getD (i+1) 0:=by
  rw [Xa,Xa,List.getElem?_drop,XN]
 have:=h.2 (i+1) (by omega)
 rw [e]
 refine⟨this.1,this.2.1,fun a=>this.2.2 ?_⟩
 rw [List.take_drop]at a
 have:=List.mem_of_mem_drop a
 rwa [XN 1 i]at this
def Tryz.Fw:=aj t1<|aj t2<|aj t3<|aj t4<|aj t5<|aj t6<|aj Z3<|aj Z4<|aj t9<|aj t10<|aj t11<|t33
theorem pos_first{ks:List Int}{x:Int}: ∀{i:Nat} (a:i<ks.length),ks[i]=x->(∀j (c:j<ks.length),j<i->ks[j]≠x)->pos ks x=some i:=by
 induction ks with
 |nil=>intro i a;simp at a
 | cons y k f=>
   intro i a b d
   cases i with
   |zero=>simp only [List.getElem_cons_zero]at b;unfold pos;rw [if_pos b.symm]
   | succ i=>
     have g:y≠x:=d 0 (by simp) (by omega)
     have:=f (i:=i) (by simpa using a) (by simpa using b) (fun j c h=>by have:=d (j+1) (by simpa using c) (by omega);simpa using this)
     unfold pos
     rw [if_neg (fun e=>g e.symm),this]
     rfl
theorem pos_no{ks:List Int}{x:Int}(a: ∀j (b:j<ks.length),ks[j]≠x):pos ks x=none:=by
 induction ks with
 |nil=>rfl
 | cons y f c=>
   have d:y≠x:=a 0 (by simp)
   unfold pos
   rw [if_neg (fun e=>d e.symm),c (fun j b=>by have:=a (j+1) (by simpa using b);simpa using this)]
   rfl
theorem Bn {h0:Hp} (ok:h0.t.Sized h0.n) {v:Value} {l:List Int} (L:av h0 1 (encI .i64) v l) (hl:l.length<1000):
 Ret zM 86 [v] h0 fun r A=>Gr h0 A/\av A 1 (encI .i64) r (norm [] l)/\ ∀c,ar r c->h0.n<=c:=by
 have S:=Si ok
 have fv:=L.fl
 refine ac (n:=46) (rs:=[.tmp 2]) rfl Tryz.e86 rfl rfl rfl (lbt rfl) ?_
 simp only [BS]
 replace S:=(S.nilG (k:=1)).nilG (k:=1)
 refine aQ (fun(i:Nat) g h=>i<=l.length/\ ∃(M D:Value) (p ks:List Int),St NoM h0 h [] [(D,1,ints ks),(M,1,ints p)]/\norm [] l=p++norm ks (l.drop i)/\p.length=i/\ks.length<=i/\g 0=v/\g 3=M/\g 4=D/\g 5=.int .i64 i) (fun i=>l.length-i) ?_ 0 _ _ ?_
 . clear S
   intro i X g h ⟨hi,M,D,p,ks,S,hnm,lo,lk,s,B,C,t⟩
   have w:an .i64 ((i:Int)+1)=((i+1:Nat):Int):=by rw [wrap64]<;>omega
   by_cases hlt:i<l.length
   . have Y:l.drop i=l[i]::l.drop (i+1):=XM hlt
     obtain⟨c0,o0,Q,Z⟩:=L.ix (kd:=.i64) (bK .i64) hlt
     generalize l[i]=x at Y Z
     simp only [BS,LB,Nat.reduceLT,Nat.reduceEqDiff,Fw,s,t,L.lenq,aA,hlt]
     refine aQ (fun(a:Nat) g A=>A=h/\a<=ks.length/\(∀j (G:j<ks.length),j<a->ks[j]≠x)/\g 0=v/\g 3=M/\g 4=D/\g 5=.int .i64 i/\g 6=.int .i64 a) (fun a=>ks.length-a) ?_ 0 _ _ ?_
     . clear s B C t
       rintro a R g A ⟨rfl,ha,T,s,B,C,t,N⟩
       have wa:an .i64 ((a:Int)+1)=((a+1:Nat):Int):=by rw [wrap64]<;>omega
       have O:av A 1 (encI .i64) D ks:=(S.gown _ m0).1.sl rfl (fun _=>rfl) (by decide)
       have E:A.load c0 o0 1=some [.int .i64 x]:=S.gr.load Z
       have H: ∀(q:Nat) (z:List Int) (u d:Value) (U:Nat->Value) (F:Hp),q=mC ks x->z=mr ks x->St NoM h0 F [] [(u,1,ints z),(d,1,ints (p++[(q:Int)]))]->norm [] l=(p++[(q:Int)])++norm z (l.drop (i+1)):=fun q z u d U F e1 e2 _=>by
        rw [hnm,Y,norm,<-e1,<-e2,List.append_assoc];rfl
       by_cases y:a<ks.length
       . obtain⟨c1,o1,x1,I⟩:=O.ix (kd:=.i64) (bK .i64) y
         replace I:A.load c1 o1 1=some [.int .i64 ks[a]]:=I
         by_cases P:ks[a]=x
         . simp only [BS]
           refine aw (aB rfl) (q:=0) (ps:=[]) (by kernel_rfl) ?_
           have V: ¬(a:Int)=(ks.length:Int):=by omega
           rw [P]at I
           simp only [BS,LB,cls,ab,Nat.reduceLT,Nat.reduceEqDiff,Nat.reduceAdd,Nat.reducePow,Nat.reduceDiv,Nat.reduceMod,Nat.reduceLeDiff,Fw,s,B,C,t,N,O.lenq,aA,y,x1,I,Q,E,V]
           refine ag (bI (by exact Tryz.t33.1) (by exact Xp) (by decide) (by rfl)) S ?_;clear S;intro h J S K;simp only [LC,aT,bA,ah,Nat.reduceMul,Nat.reduceAdd,Xr,Xm,Xq,Xv]at S
           simp only [BS,LB,Nat.reduceLT,Nat.reduceEqDiff]
           have ps:=pos_first y P T
           have f:aJ h 1 (.slice (some ⟨J,0,none⟩) 1 1)=some (1,ints [(a:Int)]):=by simp only [aJ];rw [S.lds (b:=J) (o:=0) (n:=1*1) m0 (lbt rfl)];rfl
           replace S:=S.drop1
           refine dA (S.grow (j:=1) (m:=1) (new:=ints [(a:Int)]) rfl Tryz.t33.1 Xp (by decide) Tryz.t33.2.2.2.2.2 f rfl (by decide) rfl (by rw [cq,cq];simp;omega)) ?_
           clear S f;rintro F d S
           simp only [LC]at S
           rw [<-gy]at S
           simp only [BS,LB,Nat.reduceLT,Nat.reduceEqDiff,t,w]
           refine X (i+1) _ _ (by omega) ⟨by omega,d,D,_,ks,S,H a ks D d g F (by unfold mC;rw [ps]) (by unfold mr;rw [ps]) S,by simp [lo],by omega,by simp [aa,s],by simp [aa],by simp [aa,C],by simp [aa]⟩
         . simp only [BS]
           refine aw (aB rfl) (q:=0) (ps:=[]) (by kernel_rfl) ?_
           simp only [BS,LB,cls,Nat.reduceLT,Nat.reduceEqDiff,Nat.reduceAdd,Nat.reducePow,Nat.reduceDiv,Nat.reduceMod,Nat.reduceLeDiff,Fw,s,C,t,N,O.lenq,aA,y,x1,I,Q,E,P,wa]
           refine R (a+1) _ _ (by omega) ⟨rfl,by omega,fun j G af=>?_,by simp [aa,s],by simp [aa,B],by simp [aa,C],by simp [aa,t],by simp [aa]⟩
           by_cases e:j=a
           . subst e;exact P
           . exact T j G (by omega)
       . have ea:a=ks.length:=by omega
         subst ea
         have ps:=pos_no (ks:=ks) (x:=x) (fun j G=>T j G G)
         simp only [BS]
         refine aw (aB rfl) (q:=0) (ps:=[]) (by kernel_rfl) ?_
         simp only [BS,LB,cls,ab,Nat.reduceLT,Nat.reduceEqDiff,Nat.reduceAdd,Nat.reducePow,Nat.reduceDiv,Nat.reduceMod,Nat.reduceLeDiff,Fw,s,B,C,t,N,O.lenq,aA,y,Q,E]
         refine ag (bI (by exact Tryz.t33.1) (by exact Xp) (by decide) (by rfl)) S ?_;clear S;intro h J S K;simp only [LC,aT,bA,ah,Nat.reduceMul,Nat.reduceAdd,Xr,Xm,Xq,Xv]at S
         simp only [BS,LB,Nat.reduceLT,Nat.reduceEqDiff]
         have f:aJ h 1 (.slice (some ⟨J,0,none⟩) 1 1)=some (1,ints [x]):=by simp only [aJ];rw [S.lds (b:=J) (o:=0) (n:=1*1) m0 (lbt rfl)];rfl
         replace S:=S.drop1
         refine dA (S.grow (j:=0) (m:=1) (new:=ints [x]) rfl Tryz.t33.1 Xp (by decide) Tryz.t33.2.2.2.2.2 f rfl (by decide) rfl (by rw [cq,cq];simp;omega)) ?_
         clear S f;rintro F u S
         simp only [LC]at S
         rw [<-gy]at S
         simp only [BS,LB,Nat.reduceLT,Nat.reduceEqDiff,B,N]
         refine ag (bI (by exact Tryz.t33.1) (by exact Xp) (by decide) (by rfl)) S ?_;clear S;intro h bu S ad;simp only [LC,aT,bA,ah,Nat.reduceMul,Nat.reduceAdd,Xr,Xm,Xq,Xv]at S
         simp only [BS,LB,Nat.reduceLT,Nat.reduceEqDiff]
         have f:aJ h 1 (.slice (some ⟨bu,0,none⟩) 1 1)=some (1,ints [((ks.length:Nat):Int)]):=by simp only [aJ];rw [S.lds (b:=bu) (o:=0) (n:=1*1) m0 (lbt rfl)];rfl
         replace S:=S.drop1
         refine dA (S.grow (j:=1) (m:=1) (new:=ints [((ks.length:Nat):Int)]) rfl Tryz.t33.1 Xp (by decide) Tryz.t33.2.2.2.2.2 f rfl (by decide) rfl (by rw [cq,cq];simp;omega)) ?_
         clear S f;rintro F d S
         simp only [LC]at S
         rw [<-gy]at S
         simp only [BS,LB,Nat.reduceLT,Nat.reduceEqDiff,t,w]
         refine X (i+1) _ _ (by omega) ⟨by omega,d,u,_,_,S,H ks.length _ u d g F (by unfold mC;rw [ps]) (by unfold mr;rw [ps]) S,by simp [lo],by simp;omega,by simp [aa,s],by simp [aa],by simp [aa],by simp [aa]⟩
     . exact⟨rfl,Xg _,fun j G h=>absurd h (by omega),by simp [aa,s],by simp [aa,B],by simp [aa,C],by simp [aa,t],by simp [aa]⟩
   . have W:i=l.length:=by omega
     simp only [BS,LB,ab,Nat.reduceLT,Nat.reduceEqDiff,Fw,s,B,t,L.lenq,aA,hlt]
     rw [W,List.drop_length,norm,Xz]at hnm
     rw [hnm]
     exact⟨S.gr,(S.gown _ m1).1.sl rfl (fun _=>rfl) (by decide),fun c hc=>((S.gblk m1 hc).1).elim (fun h=>h) (fun h=>h.elim)⟩
 . exact⟨Xg _,_,_,[],[],S,rfl,rfl,Xl _,by simp [aa,bV],by simp [aa],by simp [aa],by simp [aa]⟩
end Go.Ab
end
section
namespace Go.Ab
theorem rx{z:Nat}(h:z<256):an .u8 (z:Int)=(z:Int):=by
 show an .u8 (.ofNat z)=_
 unfold an
 simp only [hf,sgn,pw]
 have:Nat.blt z 256=true:=by rw [XW];exact h
 rw [this];rfl
section
variable{E:Env}{t:TypeId}{p q:Operand}{x y i:Nat}
theorem bits8(op:BinOp)(a:x<256)(b:y<256):iP op .u8 (x:Int) (y:Int)=match op with
 | .and=>some (an .u8 ((X6 x y:Nat):Int))
 | .or=>some (an .u8 ((Nat.lor x y:Nat):Int))
 | .xor=>some (an .u8 ((Nat.xor x y:Nat):Int))
 | .andNot=>some (an .u8 ((Nat.xor x (X6 x y):Nat):Int))
 |_=>none:=by
 show iP op .u8 (.ofNat x) (.ofNat y)=_
 have c:Nat.blt x (pw .u8)=true:=by rw [XW];exact a
 have d:Nat.blt y (pw .u8)=true:=by rw [XW];exact b
 unfold iP
 simp only [c,d,Bool.and_self,cond_true]
 cases op<;>rfl
theorem b_and8(a:x<256)(b:y<256):a9 E .and t p q (.int .u8 (x:Int)) (.int .u8 (y:Int))=some (.int .u8 ((x&&& y:Nat):Int)):=by
 show(bif iU .u8 .u8 then(iP .and .u8 (x:Int) (y:Int)).map (Value.int .u8 ·)else none)=_
 rw [bits8 .and a b]
 simp only []
 rw [show X6 x y=x&&& y from rfl,rx (Xw XA a)]
 rfl
theorem b_or8(a:x<256)(b:y<256):a9 E .or t p q (.int .u8 (x:Int)) (.int .u8 (y:Int))=some (.int .u8 ((x|||y:Nat):Int)):=by
 show(bif iU .u8 .u8 then(iP .or .u8 (x:Int) (y:Int)).map (Value.int .u8 ·)else none)=_
 rw [bits8 .or a b]
 simp only []
 rw [show Nat.lor x y=x|||y from rfl,rx (Nat.or_lt_two_pow (n:=8) a b)]
 rfl
theorem b_andNot8(a:x<256)(b:y<256):a9 E .andNot t p q (.int .u8 (x:Int)) (.int .u8 (y:Int))=some (.int .u8 ((x ^^^(x&&& y):Nat):Int)):=by
 show(bif iU .u8 .u8 then(iP .andNot .u8 (x:Int) (y:Int)).map (Value.int .u8 ·)else none)=_
 rw [bits8 .andNot a b]
 simp only []
 rw [show Nat.xor x (X6 x y)=x ^^^(x&&& y)from rfl,rx (XE (n:=8) a (Xw XA a))]
 rfl
theorem b_shl8{k:IntKind}(a:i<8):a9 E .shl t p q (.int .u8 1) (.int k (i:Int))=some (.int .u8 ((2 ^i:Nat):Int)):=by
 have:i=0\/i=1\/i=2\/i=3\/i=4\/i=5\/i=6\/i=7:=by omega
 rcases this with rfl|rfl|rfl|rfl|rfl|rfl|rfl|rfl<;>rfl
end
theorem pow8{i:Nat}(h:i<8):2 ^i<256:=Nat.pow_lt_pow_right (by decide) h
theorem and_pow{x i:Nat}:(x&&& 2 ^i=0)↔x.testBit i=false:=by
 constructor
 . intro h
   have:=congrArg (fun z=>z.testBit i) h
   simpa [XR,XD]using this
 . intro h
   refine Nat.eq_of_testBit_eq fun j=>?_
   rw [XR,XD,Nat.zero_testBit]
   by_cases e:i=j
   . subst e;rw [h];rfl
   . simp [e]
def setB(x i:Nat):Nat:=(x ^^^(x&&& 2 ^i))|||2 ^i
theorem setB_at(x i j:Nat):(setB x i).testBit j=if j=i then true else x.testBit j:=by
 unfold setB
 rw [Nat.testBit_or,Nat.testBit_xor,XR,XD]
 by_cases e:j=i
 . subst e;simp
 . have a: ¬i=j:=fun h=>e h.symm
   simp [e,a]
theorem setB_lt{x i:Nat}(a:x<256)(b:i<8):setB x i<256:=
 Nat.or_lt_two_pow (n:=8) (XE (n:=8) a (Xw XA a)) (pow8 b)
end Go.Ab

end
section
namespace Go.Ab
def swJ(l:List Nat)(j:Nat):List Nat:=(l.set j (l.getD (j-1) 0)).set (j-1) (l.getD j 0)
def bub(key:Nat->Int):Nat->List Nat->List Nat
 |0,l=>l
 |j+1,l=>if key (l.getD j 0)<key (l.getD (j+1) 0)then bub key j (swJ l (j+1))else l
def iF(key:Nat->Int)(k:Nat)(l:List Nat):List Nat:=(zO k).foldl (fun l i=>bub key (i+1) l) l
theorem pG(key:Nat->Int)(k:Nat)(l:List Nat):iF key (k+1) l=bub key (k+1) (iF key k l):=by
 unfold iF;rw [List.range_succ,List.foldl_append];rfl
theorem swJ_len(l:List Nat)(j:Nat):(swJ l j).length=l.length:=by simp [swJ]
theorem yZ{l:List Nat}{j:Nat}(h:j<l.length):(swJ l j).Perm l:=by
 have:((l.set j l[j-1]).set (j-1) l[j]).Perm l:=List.set_set_perm h (by omega)
 unfold swJ
 rwa [show l.getD (j-1) 0=l[j-1] by simp [Xa,show j-1<l.length by omega],show l.getD j 0=l[j] by simp [Xa,h]]
theorem yL{key:Nat->Int}: ∀(j:Nat) {l:List Nat},j<l.length->(bub key j l).Perm l
 |0,l,_=>.refl _
 | j+1,l,h=>by
   unfold bub
   split
   . exact(yL j (by rw [swJ_len];omega)).trans (yZ h)
   . exact .refl _
theorem pI{key:Nat->Int}{l:List Nat}: ∀(k:Nat),k<l.length\/k=0->(iF key k l).Perm l
 |0,_=>.refl _
 | k+1,h=>by
   have a:=pI (key:=key) (l:=l) k (by omega)
   rw [pG]
   exact(yL (k+1) (by rw [a.length_eq];omega)).trans a
end Go.Ab

end
section
namespace Go.Ab
open Go.Proofs
set_option maxRecDepth 10000
def Tryz.FU:=aj t1<|aj t2<|aj t3<|aj t4<|aj t5<|aj t6<|aj t33<|t161
def Tryz.F0T:=aj t3<|aj t33<|t161
def Tryz.F0U:=aj t1<|aj t2<|aj t3<|aj t4<|t33
def Tryz.F0V:=aj t1<|aj t2<|aj t3<|aj t33<|t161
def eA(l:List Nat):List Value:=l.map fun(x:Nat)=>.int .i64 x
theorem rU(l:List Nat):l.flatMap ce=eA l:=by
 unfold eA;rw [XV,X2,XV];rfl
theorem mi(l:List Nat):(eA l).length=l.length:=by simp [eA]
theorem natM_at{l:List Nat}{i:Nat}(h:i<l.length):(eA l)[i]? =some (.int .i64 (l.getD i 0:Nat)):=by
 unfold eA;rw [Xi,Xc h];simp [Xa,h]
theorem xx(l:List Nat)(i x:Nat):(eA l).set i (.int .i64 (x:Nat))=eA (l.set i x):=by unfold eA;rw [List.map_set]
theorem yX{a b:Int}:kE a b<0↔a<b:=by
 unfold kE
 split
 . omega
 . split<;>omega
def CmpF(E:Env)(hq:Hp)(g:FuncId)(post:List Value)(N:Nat)(key:Nat->Int):Prop:= ∀h,Gr hq h-> ∀i j,i<N->j<N->aK E g ([.int .i64 (i:Nat),.int .i64 (j:Nat)]++post) h (.int .i64 (kE (key j) (key i)))
theorem A9 {hq h0:Hp} (z:Gr hq h0) {b N:Nat} {xs:List Nat} {g:FuncId} {post:Array Value} {key:Nat->Int} (p:Row h0 b (eA xs) 1) (R:hq.n<=b) (T:xs.length<=20) (A: ∀x∈xs,x<N) (G:CmpF zM hq g post.toList N key):
 Ret zM 255 [.slice (some ⟨b,0,some 1⟩) xs.length xs.length,.int .i64 0,.int .i64 (xs.length:Nat),.func (.func g) #[] post] h0 fun _ B=>Mo (· =b) h0 B/\Row B b (eA (iF key (xs.length-1) xs)) 1:=by
 have H:=z.ok
 have S:=St.init1 H (o:=.row _ 1) p
 have U:an .i64 (0+1)=((0+1:Nat):Int):=rfl
 refine ac (n:=53) (rs:=[]) rfl Tryz.e255 rfl rfl rfl (lbt rfl) ?_
 simp only [BS,LB,Nat.reduceLT,Nat.reduceEqDiff,Int.reduceAdd]
 refine aQ (fun(i:Nat) a h=>i<=xs.length-1/\St (· =b) h0 h [(b,.row (eA (iF key i xs)) 1)] []/\a 0=.slice (some ⟨b,0,some 1⟩) xs.length xs.length/\a 1=.int .i64 0/\a 2=.int .i64 (xs.length:Nat)/\a 3=.func (.func g) #[] post/\a 8=.int .i64 ((i+1:Nat):Int)) (fun i=>xs.length-i) ?_ 0 _ _ ?_
 . clear S
   intro i C a h ⟨hi,S,r0,r1,r2,r3,r8⟩
   by_cases hlt:i+1<xs.length
   . simp only [BS,LB,Nat.reduceLT,Nat.reduceEqDiff,r2,r8,aA,hlt]
     have r:=pI (key:=key) (l:=xs) i (.inl (by omega))
     refine aQ (fun(j:Nat) a h=>j<=i+1/\ ∃l,l.Perm xs/\bub key j l=bub key (i+1) (iF key i xs)/\St (· =b) h0 h [(b,.row (eA l) 1)] []/\a 0=.slice (some ⟨b,0,some 1⟩) xs.length xs.length/\a 1=.int .i64 0/\a 2=.int .i64 (xs.length:Nat)/\a 3=.func (.func g) #[] post/\a 8=.int .i64 ((i+1:Nat):Int)/\a 9=.int .i64 (j:Nat)) (fun j=>j) ?_ (i+1) _ _ ?_
     . clear S r0 r1 r2 r3 r8
       intro j s a h ⟨hj,l,pm,hbub,S,r0,r1,r2,r3,r8,r9⟩
       have V:=pm.length_eq
       have D:an .i64 (((i+1:Nat):Int)+1)=((i+1+1:Nat):Int):=by rw [wrap64]<;>omega
       by_cases I:0<j
       . obtain⟨k,rfl⟩: ∃k,j=k+1:=⟨j-1,by omega⟩
         have E:(0:Int)<((k+1:Nat):Int):=by omega
         have t:an .i64 (((k+1:Nat):Int)-1)=(k:Int):=by rw [wrap64]<;>omega
         have F:k+1<xs.length:=by omega
         have u:k<xs.length:=by omega
         have d:=(S.row (b:=b) m0).load1 (natM_at (i:=k+1) (by omega))
         have f:=(S.row (b:=b) m0).load1 (natM_at (i:=k) (by omega))
         have J:l.getD (k+1) 0<N:=by
          refine A _ (pm.mem_iff.1 ?_)
          rw [Xa,Xc (by omega)];exact Xf _
         have K:l.getD k 0<N:=by
          refine A _ (pm.mem_iff.1 ?_)
          rw [Xa,Xc (by omega)];exact Xf _
         simp only [BS]
         refine aw (aB rfl) (q:=0) (ps:=[]) (by kernel_rfl) ?_
         simp only [BS,LB,cls,Nat.reduceLT,Nat.reduceEqDiff,Nat.reduceAdd,Nat.reducePow,Nat.reduceDiv,Nat.reduceMod,Nat.reduceLeDiff,FU,r0,r1,r3,r9,E,t,F,u,d,f]
         refine bZ (G _ (((z.fr (M:=NoM)).trans S.fr (fun c e=>.inr (by omega))).gr) _ _ J K) ?_
         intro h v
         replace S:=S.call v
         by_cases m:key (l.getD k 0)<key (l.getD (k+1) 0)
         . have w:kE (key (l.getD k 0)) (key (l.getD (k+1) 0))<0:=yX.2 m
           replace d:=v.load d
           replace f:=v.load f
           simp only [BS,LB,cls,Nat.reduceLT,Nat.reduceEqDiff,Nat.reduceAdd,Nat.reducePow,Nat.reduceDiv,Nat.reduceMod,Nat.reduceLeDiff,w]
           refine aw (aB rfl) (q:=0) (ps:=[]) (by kernel_rfl) ?_
           simp only [BS,LB,cls,Nat.reduceLT,Nat.reduceEqDiff,Nat.reduceAdd,Nat.reducePow,Nat.reduceDiv,Nat.reduceMod,Nat.reduceLeDiff,FU,r0,r9,t,F,u,d,f]
           refine dw (az S (i:=0) rfl Tryz.t3.2.2.1 bU (by rw [mi];omega) ono) ?_
           clear S;rintro W ⟨S,L⟩
           simp only [LC]at S
           simp only [BS,LB,cls,Nat.reduceLT,Nat.reduceEqDiff,Nat.reduceAdd,Nat.reducePow,Nat.reduceDiv,Nat.reduceMod,Nat.reduceLeDiff,FU,u]
           refine dw (az S (i:=0) rfl Tryz.t3.2.2.1 bU (by rw [List.length_set,mi];omega) ono) ?_
           clear S;rintro X ⟨S,O⟩
           simp only [LC]at S
           rw [xx,xx]at S
           simp only [BS,LB,Nat.reduceLT,Nat.reduceEqDiff,Nat.reduceAdd,r9,t]
           have e:bub key (k+1) l=bub key k (swJ l (k+1)):=by
            show(if _ then _ else _)=_
            rw [if_pos m]
           exact s k _ _ (by omega) ⟨by omega,swJ l (k+1),(yZ (by omega)).trans pm,by rw [<-e];exact hbub,S,by simp [aa,r0],by simp [aa,r1],by simp [aa,r2],by simp [aa,r3],by simp [aa,r8],by simp [aa]⟩
         . have w: ¬kE (key (l.getD k 0)) (key (l.getD (k+1) 0))<0:=fun h=>m (yX.1 h)
           have e:bub key (k+1) l=l:=by
            show(if _ then _ else _)=_
            rw [if_neg m]
           rw [e]at hbub
           simp only [BS,LB,cls,Nat.reduceLT,Nat.reduceEqDiff,Nat.reduceAdd,Nat.reducePow,Nat.reduceDiv,Nat.reduceMod,Nat.reduceLeDiff,r8,w,D]
           exact C (i+1) _ _ (by omega) ⟨by omega,by rw [pG,<-hbub];exact S,by simp [aa,r0],by simp [aa,r1],by simp [aa,r2],by simp [aa,r3],by simp [aa]⟩
       . have P:j=0:=by omega
         subst P
         have y:l=bub key (i+1) (iF key i xs):=hbub
         have E: ¬(0:Int)<((0:Nat):Int):=by omega
         simp only [BS]
         refine aw (aB rfl) (q:=0) (ps:=[]) (by kernel_rfl) ?_
         simp only [BS,LB,cls,Nat.reduceLT,Nat.reduceEqDiff,Nat.reduceAdd,Nat.reducePow,Nat.reduceDiv,Nat.reduceMod,Nat.reduceLeDiff,Int.reduceLT,Int.cast_ofNat_Int,r1,r8,r9,D]
         exact C (i+1) _ _ (by omega) ⟨by omega,by rw [pG,<-y];exact S,by simp [aa,r0],by simp [aa,r1],by simp [aa,r2],by simp [aa,r3],by simp [aa]⟩
     . exact⟨Xl _,_,r,rfl,S,by simp [aa,r0],by simp [aa,r1],by simp [aa,r2],by simp [aa,r3],by simp [aa,r8],by simp [aa]⟩
   . simp only [BS,LB,Nat.reduceLT,Nat.reduceEqDiff,r2,r8,aA,hlt]
     have Q:i=xs.length-1:=by omega
     subst Q
     exact⟨S.fr,S.row m0⟩
 . exact⟨Xg _,S,by simp [aa,bV],by simp [aa,bV],by simp [aa,bV],by simp [aa,bV],by simp [aa];rfl⟩
theorem stable_ok{hq h0:Hp}(c:Gr hq h0){b N:Nat}{xs:List Nat}{g:FuncId}{post:Array Value}{key:Nat->Int}(a:Row h0 b (eA xs) 1)(e:hq.n<=b)(o:xs.length<20)(i: ∀x∈xs,x<N)(j:CmpF zM hq g post.toList N key):
 Ret zM 222 [.slice (some ⟨b,0,some 1⟩) xs.length xs.length,.int .i64 (xs.length:Nat),.func (.func g) #[] post] h0 fun _ d=>Mo (· =b) h0 d/\Row d b (eA (iF key (xs.length-1) xs)) 1:=by
 have k:=c.ok
 have l: ¬(20:Int)<=(xs.length:Int):=by omega
 have m: ¬(20:Int)<(xs.length:Int):=by omega
 have S:=Si k
 refine ac (n:=63) (rs:=[]) rfl Tryz.e222 rfl rfl rfl (lbt rfl) ?_
 simp only [BS,LB,Nat.reduceLT,Nat.reduceEqDiff]
 rw [cd]
 simp only [BS,LB,Nat.reduceLT,Nat.reduceEqDiff,l]
 refine step_ret (A9 c a e (by omega) i j) ?_
 rintro r h ⟨f,R⟩
 simp only [BS]
 rw [cd]
 simp only [BS,LB,Nat.reduceLT,Nat.reduceEqDiff,m]
 exact⟨f,R⟩
theorem xp{hq h0:Hp}(d:Gr hq h0){b N:Nat}{xs:List Nat}{g:FuncId}{post:Array Value}{key:Nat->Int}(a:Row h0 b (eA xs) 1)(e:hq.n<=b)(f:xs.length<20)(i: ∀x∈xs,x<N)(j:CmpF zM hq g post.toList N key):
 Ret zM 158 [.slice (some ⟨b,0,some 1⟩) xs.length xs.length,.func (.func g) #[] post] h0 fun _ c=>Mo (· =b) h0 c/\Row c b (eA (iF key (xs.length-1) xs)) 1:=by
 refine ac (n:=9) (rs:=[]) rfl Tryz.e158 rfl rfl rfl (lbt rfl) ?_
 simp only [BS,LB,Nat.reduceLT,Nat.reduceEqDiff,F0T]
 refine step_ret (stable_ok d a e f i j) ?_
 rintro r h q
 simp only [BS]
 exact q
theorem za{h0:Hp}(k:h0.t.Sized h0.n){v:Value}{xs:List Nat}(l:av h0 1 ce v xs)(x:xs.length<1000000)(f:xs≠ []):Ret zM 55 [v] h0 fun r d=>Gr h0 d/\ ∃b,r=.slice (some ⟨b,0,some 1⟩) xs.length xs.length/\Row d b (eA xs) 1/\h0.n<=b:=by
 have S:=Si k
 rcases l with⟨_,rfl⟩|⟨b,o,s,c,rfl,m,p⟩
 . exact absurd rfl f
 . refine ac (n:=8) (rs:=[.tmp 2]) rfl Tryz.e55 rfl rfl rfl (lbt rfl) ?_
   simp only [BS,LB,Nat.reduceLT,Nat.reduceEqDiff,F0U]
   refine ag (bI (by exact Tryz.t33.1) (by exact Xp) (by decide) (by rfl)) S ?_;clear S;intro h y S i;simp only [LC,aT,bA,ah,Nat.reduceMul,Nat.reduceAdd,Xr,Xm,Xq,Xv]at S
   simp only [BS,LB,Nat.reduceLT,Nat.reduceEqDiff]
   have q:=S.fr.n
   refine dA (S.cloneW (enc:=ce) (ys:=xs) Tryz.t33.1 Xp (by decide) Tryz.t33.2.2.2.2.2 (.inr ⟨b,o,s,c,rfl,m,S.old p (fun h=>h)⟩) dG (by decide) (by omega) (S.row m0)) ?_
   rintro d v ⟨t,g,z,u,w⟩
   obtain⟨j,rfl,a⟩:=w f
   simp only [BS,LB,ab,Nat.reduceLT,Nat.reduceEqDiff]
   rw [rU]at a
   exact⟨t.gr,j,rfl,a,(u j rfl).elim (fun e=>by omega) (fun e=>Xd q e)⟩
theorem first_ok{hq h0:Hp}(j:Gr hq h0){N:Nat}{v:Value}{xs:List Nat}{g:FuncId}{post:Array Value}{key:Nat->Int}(u:av h0 1 ce v xs)(d:xs≠ [])(w:xs.length<20)(y: ∀x∈xs,x<N)(i:CmpF zM hq g post.toList N key){m:Nat}(D:1<=m):
 Ret zM 82 [v,.int .i64 (m:Nat),.func (.func g) #[] post] h0 fun r q=>Gr h0 q/\av q 1 ce r ((iF key (xs.length-1) xs).take (min m xs.length))/\ ∀c,ar r c->h0.n<=c:=by
 have z:=j.ok
 have A:min (m:Int) (xs.length:Int)=((min m xs.length:Nat):Int):=by omega
 have s:=pI (key:=key) (l:=xs) (xs.length-1) (by cases xs with|nil=>exact absurd rfl d|cons a l=>simp)
 have S:=Si z
 refine ac (n:=18) (rs:=[.tmp 6]) rfl Tryz.e82 rfl rfl rfl (lbt rfl) ?_
 simp only [BS,LB,Nat.reduceLT,Nat.reduceEqDiff]
 refine step_ret (za S.ok u (by omega) d) ?_
 rintro r h ⟨t,b,rfl,k,B⟩
 have o:hq.n<=b:=Xd j.n B
 simp only [BS,LB,Nat.reduceLT,Nat.reduceEqDiff]
 refine step_ret (xp (j.trans t) k o w y i) ?_
 rintro r E ⟨f,R⟩
 have C:=zo (kd:=.i64) (b:=b) (len:=xs.length) (n:=min m xs.length) Tryz.t33.1 Tryz.t3.2.2.1 (cap:=xs.length) (Nat.min_le_right _ _)
 simp only [BS,LB,ab,Nat.reduceLT,Nat.reduceEqDiff,Option.map_some,Option.map_none,F0V,A,C]
 refine⟨((t.fr (M:=NoM)).trans f (fun c e=>.inr (by omega))).gr,?_,fun c i=>by have i:b=c:=i;omega⟩
 have p:((iF key (xs.length-1) xs).take (min m xs.length)).length=min m xs.length:=by rw [List.length_take,s.length_eq];omega
 refine .inr ⟨b,0,some 1,xs.length,by rw [p],by rw [p];exact Nat.min_le_right _ _,?_⟩
 rw [p,R.load (by rw [mi,s.length_eq];omega),rU,List.drop_zero,Xq]
 unfold eA
 rw [List.map_take]
def Tryz.F0c:=aj t1<|aj t2<|aj t3<|aj t4<|aj t5<|aj t6<|aj t22<|aj t78<|Z10
def Tryz.F0d:=aj t1<|aj t4<|aj t5<|t181
def Tryz.F0e:=aj t1<|aj t2<|aj t3<|aj t4<|aj t5<|t181
def iL(n:Nat)(B:Nat->Nat):List Value:=(zO n).map fun j=>.int .u8 (B j:Nat)
theorem yu{n:Nat}{B:Nat->Nat}:(iL n B).length=n:=by simp [iL]
theorem vq{n j:Nat}{B:Nat->Nat}(h:j<n):(iL n B)[j]? =some (.int .u8 (B j:Nat)):=jj (F:=fun j=>Value.int .u8 ((B j:Nat):Int)) h
theorem xK{n j x:Nat}{B:Nat->Nat}:(iL n B).set j (.int .u8 (x:Nat))=iL n (c8 B j x):=by
 have:=iT (N:=n) (k:=j) (F:=fun j=>Value.int .u8 ((B j:Nat):Int)) (F':=fun u=>Value.int .u8 ((c8 B j x u:Nat):Int)) (fun i _ a=>by simp [c8,a])
 unfold iL
 rw [<-this];simp [c8]
structure gX(h:Hp)(bp bb rows wide long:Nat)(B:Nat->Nat):Prop where
 r:Row h bp [.int .i64 rows,.int .i64 wide,.int .i64 long,.slice (some ⟨bb,0,none⟩) (rows*long) (rows*long)] 1
 b:Row h bb (iL (rows*long) B) 1
 lt: ∀j,B j<256
theorem gX.gr{h b:Hp}{c d rows a long:Nat}{B:Nat->Nat}(m:gX h c d rows a long B)(g:Gr h b):gX b c d rows a long B:=⟨m.r.gr g,m.b.gr g,m.lt⟩
theorem gX.bits{h:Hp}{b c rows a long:Nat}{B:Nat->Nat}(m:gX h b c rows a long B):mT h (ptrTo b) rows a true:=.inr ⟨b,_,_,rfl,m.r,rfl⟩
def fJ(B:Nat->Nat)(long r i:Nat):Bool:=(B (r*long+i/8)).testBit (i%8)
theorem bitB_set{B:Nat->Nat}{long r i c b:Nat}(f:i/8<long)(g:b/8<long):fJ (c8 B (r*long+i/8) (setB (B (r*long+i/8)) (i%8))) long c b=if c=r/\b=i then true else fJ B long c b:=by
 unfold fJ c8
 by_cases e:c*long+b/8=r*long+i/8
 . rw [if_pos e,setB_at]
   have j:c=r:=by
    have a:(c*long+b/8)/long=(r*long+i/8)/long:=by rw [e]
    rw [Nat.mul_comm c,Nat.mul_comm r,Nat.mul_add_div (by omega),Nat.mul_add_div (by omega),Nat.div_eq_of_lt f,Nat.div_eq_of_lt g]at a
    omega
   subst j
   have e8:b/8=i/8:=by omega
   rw [e]
   by_cases d:b%8=i%8
   . rw [if_pos d,if_pos ⟨rfl,by omega⟩]
   . rw [if_neg d,if_neg (fun h=>d (by rw [h.2]))]
 . rw [if_neg e,if_neg (fun h=>e (by rw [h.1,h.2]))]
theorem bmNew_ok{h0:Hp}(u:h0.t.Sized h0.n){a w:Nat}(v:a<=100)(C:w<=1000):Ret zM 95 [.int .i64 (a:Nat),.int .i64 (w:Nat)] h0 fun r k=>Gr h0 k/\ ∃c d,r=ptrTo c/\h0.n<=c/\h0.n<=d/\c≠d/\gX k c d a w ((w+7)/8) (fun _=>0):=by
 have S:=Si u
 have l: ¬((a:Int)<0):=by omega
 have m: ¬((w:Int)<0):=by omega
 have o: ¬((67108864:Int)<(w:Int)):=by omega
 have p:an .i64 ((w:Int)+8)=(w:Int)+8:=by rw [wrap64]<;>omega
 have q:an .i64 ((w:Int)+8-1)=((w+7:Nat):Int):=by rw [wrap64]<;>omega
 have g:(w+7)/8<=126:=by omega
 have i:an .i64 ((((w+7:Nat):Int)).tdiv 8)=(((w+7)/8:Nat):Int):=by
  rw [XI (by omega),show(((w+7:Nat):Int)/8)=(((w+7)/8:Nat):Int) by omega,wrap64]<;>omega
 generalize D:(w+7)/8=K at g i
 have E:a*K<=100*126:=Nat.mul_le_mul v g
 have s:an .i64 ((a:Int)*(K:Int))=((a*K:Nat):Int):=by rw [<-Int.natCast_mul,wrap64]<;>omega
 have mk: ∀(n:Nat),aT [Value.int .u8 0] n=iL n (fun _=>0):=fun n=>by
  rw [lJ]
  unfold iL
  rw [XS,List.length_range]
  rfl
 by_cases t:0<(K:Int)
 . have y:(268435456:Int).tdiv (K:Int)=((268435456/K:Nat):Int):=by
    rw [XI (by decide)];rfl
   have F:268435456/126<=268435456/K:=Nat.div_le_div_left g (by omega)
   have G:268435456/K<=268435456:=Nat.div_le_self _ _
   have H:(268435456/126:Nat)=2130440:=rfl
   have z:an .i64 ((268435456:Int).tdiv (K:Int))=(268435456:Int).tdiv (K:Int):=by rw [y,wrap64]<;>omega
   have A: ¬((268435456:Int).tdiv (K:Int)<(a:Int)):=by omega
   have B:(K:Int)≠0:=by omega
   refine ac (n:=37) (rs:=[.tmp 4]) rfl Tryz.e95 rfl rfl rfl (lbt rfl) ?_
   simp only [BS,LB,Nat.reduceLT,Nat.reduceEqDiff,l,m,o,p,q,i,z,s,t,A,lj (n:=8) (by decide),lj (n:=(K:Int)) B]
   refine ag (jF (by exact Tryz.t22.1) (by exact Tryz.e5E) (by omega) (by omega)) S ?_;clear S;intro h d S b
   rw [Xh,mk]at S
   simp only [BS,LB,Nat.reduceLT,Nat.reduceEqDiff,Nat.reduceAdd,F0c,Xh]
   refine ag (bg (by intro x e;cases e)) S ?_;clear S;intro h c S f;simp only [ah]at S
   simp only [BS,LB,ab,Nat.reduceLT,Nat.reduceEqDiff]
   have j:=S.apart
   exact⟨S.gr,c,d,rfl,by have:=S.fr.n;omega,b,fun e=>(by subst e;simp [keys]at j),⟨S.row m0,S.row m1,fun _=>Nat.zero_lt_succ _⟩⟩
 . refine ac (n:=37) (rs:=[.tmp 4]) rfl Tryz.e95 rfl rfl rfl (lbt rfl) ?_
   simp only [BS,LB,Nat.reduceLT,Nat.reduceEqDiff,l,m,o,p,q,i,s,t,lj (n:=8) (by decide)]
   refine ag (jF (by exact Tryz.t22.1) (by exact Tryz.e5E) (by omega) (by omega)) S ?_;clear S;intro h d S b
   rw [Xh,mk]at S
   simp only [BS,LB,Nat.reduceLT,Nat.reduceEqDiff,Nat.reduceAdd,F0c,Xh]
   refine ag (bg (by intro x e;cases e)) S ?_;clear S;intro h c S f;simp only [ah]at S
   simp only [BS,LB,ab,Nat.reduceLT,Nat.reduceEqDiff]
   have j:=S.apart
   exact⟨S.gr,c,d,rfl,by have:=S.fr.n;omega,b,fun e=>(by subst e;simp [keys]at j),⟨S.row m0,S.row m1,fun _=>Nat.zero_lt_succ _⟩⟩
theorem get1_ok{h0:Hp}(g:h0.t.Sized h0.n){b j x i:Nat}(l:h0.load b j 1=some [.int .u8 (x:Nat)])(c:x<256)(d:i<8):aK zM 98 [.pointer (some ⟨b,j,none⟩),.int .u8 ((2 ^i:Nat):Int)] h0 (.bool (x.testBit i)):=by
 have S:=Si g
 cases f:x.testBit i with
 | true=>
   have a: ¬(((x&&& 2 ^i:Nat)):Int)=0:=fun e=>by
    have:(x&&& 2 ^i)=0:=by omega
    rw [and_pow,f]at this;cases this
   refine ac (n:=11) (rs:=[.tmp 4]) rfl Tryz.e98 rfl rfl rfl (lbt rfl) ?_
   simp only [BS,LB,ab,Nat.reduceLT,Nat.reduceEqDiff,F0d,l,b_and8 c (pow8 d),a]
   exact S.gr
 | false=>
   have a:(((x&&& 2 ^i:Nat)):Int)=0:=by
    have:=and_pow.2 f
    omega
   refine ac (n:=11) (rs:=[.tmp 4]) rfl Tryz.e98 rfl rfl rfl (lbt rfl) ?_
   simp only [BS,LB,ab,Nat.reduceLT,Nat.reduceEqDiff,F0d,l,b_and8 c (pow8 d),a]
   exact S.gr
theorem set1_ok{h0:Hp}(q:h0.t.Sized h0.n){a d j n i:Nat}{B:Nat->Nat}(R:Row h0 a (iL n B) 1)(c:j<n)(e:B j<256)(s:i<8)(t:h0.load d 0 1=some [.bool true])(f:d≠a):
 Ret zM 180 [.pointer (some ⟨a,j,none⟩),.int .u8 ((2 ^i:Nat):Int),ptrTo d] h0 fun r l=>Mo (· =a) h0 l/\r=.bool true/\Row l a (iL n (c8 B j (setB (B j) i))) 1:=by
 have S:=St.init1 q (o:=.row (iL n B) 1) R
 have m:=S.ld (b:=a) (o:=j) m0 (vq c)
 have p:=pow8 s
 have v:(B j ^^^(B j&&& 2 ^i))<256:=XE (n:=8) e (Xw XA e)
 refine ac (n:=19) (rs:=[.tmp 5]) rfl Tryz.e180 rfl rfl rfl (lbt rfl) ?_
 simp only [BS,LB,Nat.reduceLT,Nat.reduceEqDiff,F0e,m,b_andNot8 e p]
 refine ay (az S (i:=0) rfl Tryz.t5.2.2.1 bU (by rw [yu];exact c) ono) ?_
 clear S m;rintro h ⟨S,w⟩
 simp only [LC]at S
 rw [xK]at S
 have g:=S.ld (b:=a) (o:=j) m0 (vq c)
 have x:c8 B j (B j ^^^(B j&&& 2 ^i)) j=(B j ^^^(B j&&& 2 ^i)):=by simp [c8]
 rw [x]at g
 have k:=S.old t f
 simp only [BS,LB,Nat.reduceLT,Nat.reduceEqDiff,F0e,k,g,b_or8 v p]
 refine ay (az S (i:=0) rfl Tryz.t5.2.2.1 bU (by rw [yu];exact c) ono) ?_
 clear S g;rintro h ⟨S,w⟩
 simp only [LC]at S
 rw [show(((B j ^^^(B j&&& 2 ^i))|||2 ^i:Nat):Int)=((setB (B j) i:Nat):Int)from rfl,xK]at S
 have y:c8 (c8 B j (B j ^^^(B j&&& 2 ^i))) j (setB (B j) i)=c8 B j (setB (B j) i):=by
  funext u;unfold c8;split<;>rfl
 rw [y]at S
 simp only [BS,LB,ab,Nat.reduceLT,Nat.reduceEqDiff]
 exact⟨S.fr,S.row m0⟩
end Go.Ab
end
section
namespace Go.Ab
open Go.Proofs
set_option maxRecDepth 10000
def Tryz.F0f:=aj t1<|aj t2<|aj t3<|aj t4<|aj t5<|aj t22<|aj t78<|aj t181<|aj t182<|Z10
def Tryz.F0g:=aj t1<|aj t2<|aj t3<|aj t4<|aj t22<|aj t78<|aj t196<|Z10
def Tryz.FV:=aj t1<|aj t2<|aj t3<|aj t4<|aj t9<|aj t22<|aj t33<|aj t78<|aj t250<|Z10
section
variable{h0:Hp}{bp bb rows wide long:Nat}{B:Nat->Nat}
theorem uj{r i:Nat}(e:r<rows)(g:i<wide)(a:rows<=100)(b:wide<=1000)(c:long=(wide+7)/8):
 an .i64 ((r:Int)*(long:Int))=((r*long:Nat):Int)/\an .i64 ((i:Int).tdiv 8)=((i/8:Nat):Int)/\an .i64 (((r*long:Nat):Int)+((i/8:Nat):Int))=((r*long+i/8:Nat):Int)/\(i:Int).tmod 8=((i%8:Nat):Int)/\r*long+i/8<rows*long/\i/8<long/\i%8<8:=by
 have f:long<=126:=by omega
 have h:r*long<=100*126:=Nat.mul_le_mul (by omega) f
 have d:i/8<long:=by omega
 have j:r*long+long<=rows*long:=by
  rw [<-Nat.succ_mul];exact Xs _ e
 refine⟨by rw [<-Int.natCast_mul,wrap64]<;>omega,?_,by rw [wrap64]<;>omega,rfl,by omega,d,by omega⟩
 rw [show(i:Int).tdiv 8=((i/8:Nat):Int)from rfl,wrap64]<;>omega
theorem bGet_ok(j:h0.t.Sized h0.n)(m:gX h0 bp bb rows wide long B){r i:Nat}(t:r<rows)(u:i<wide)(b:rows<=100)(c:wide<=1000)(d:long=(wide+7)/8):
 aK zM 39 [ptrTo bp,.int .i64 (r:Nat),.int .i64 (i:Nat)] h0 (.bool (fJ B long r i)):=by
 obtain⟨w,x,y,z,k,M,l⟩:=uj t u b c d
 have A: ∀{h:Hp},Gr h0 h->aK zM 97 [ptrTo bp,.int .i64 (r:Nat),.int .i64 (i:Nat),.func (.func 98) #[] #[]] h (.bool (fJ B long r i)):=by
  intro h g
  have S:=Si g.ok
  have e:=m.gr g
  have C: ¬(r:Int)<0:=by omega
  have D: ¬(rows:Int)<=(r:Int):=by omega
  have E: ¬(i:Int)<0:=by omega
  have F: ¬(wide:Int)<=(i:Int):=by omega
  have G:=e.r.load1 (o:=2) rfl
  have H:=e.r.load1 (o:=3) rfl
  have I:=e.b.load1 (vq k)
  have J:=e.r.lt g.ok
  refine ac (n:=46) (rs:=[.tmp 8]) rfl Tryz.e97 rfl rfl rfl (lbt rfl) ?_
  simp only [BS,LB,Nat.reduceLT,Nat.reduceEqDiff,C]
  refine am (mH S.ok e.bits) ?_;intro N f;replace S:=S.call f
  simp only [BS,LB,Nat.reduceLT,Nat.reduceEqDiff,D,E]
  refine am (j8 S.ok (e.gr f).bits) ?_;intro O p;replace S:=S.call p
  have a:=f.trans p
  have K:=a.load G
  have L:=a.load H
  simp only [BS,LB,Nat.reduceLT,Nat.reduceEqDiff,F]
  refine aw (aB rfl) (q:=0) (ps:=[]) (by kernel_rfl) ?_
  simp only [BS,LB,cls,Nat.reduceLT,Nat.reduceEqDiff,Nat.reduceAdd,Nat.reducePow,Nat.reduceDiv,Nat.reduceMod,Nat.reduceLeDiff,F0f,K,L,w,x,y,z,k,lj (n:=8) (by decide),lc (n:=8) (by decide),b_shl8 l]
  refine bZ (get1_ok S.ok (a.load I) (e.lt _) l) ?_
  intro P s
  have v:=aq s (Xb J a.n)
  replace S:=S.call s
  simp only [BS,LB,cls,ab,Nat.reduceLT,Nat.reduceEqDiff,Nat.reduceAdd,Nat.reducePow,Nat.reduceDiv,Nat.reduceMod,Nat.reduceLeDiff]
  exact⟨rfl,S.gr⟩
 have S:=Si j
 refine ac (n:=11) (rs:=[.tmp 6]) rfl Tryz.e39 rfl rfl rfl (lbt rfl) ?_
 simp only [BS,LB,Nat.reduceLT,Nat.reduceEqDiff]
 refine am (A (Gr.refl j)) ?_
 intro h g
 simp only [BS,LB,ab,Nat.reduceLT,Nat.reduceEqDiff]
 exact g
theorem bSet_ok(x:h0.t.Sized h0.n)(m:gX h0 bp bb rows wide long B)(l:bp≠bb){r i:Nat}(E:r<rows)(F:i<wide)(b:rows<=100)(d:wide<=1000)(e:long=(wide+7)/8):
 Ret zM 96 [ptrTo bp,.int .i64 (r:Nat),.int .i64 (i:Nat),.bool true] h0 fun v p=>Mo (· =bb) h0 p/\v=.bool true/\gX p bp bb rows wide long (c8 B (r*long+i/8) (setB (B (r*long+i/8)) (i%8))):=by
 obtain⟨G,H,I,J,y,n6,t⟩:=uj E F b d e
 have K: ∀{h:Hp} {s:Nat},Gr h0 h->h.load s 0 1=some [.bool true]->s≠bb->Ret zM 97 [ptrTo bp,.int .i64 (r:Nat),.int .i64 (i:Nat),.func (.func 180) #[] #[ptrTo s]] h fun v p=>Mo (· =bb) h p/\v=.bool true/\Row p bb (iL (rows*long) (c8 B (r*long+i/8) (setB (B (r*long+i/8)) (i%8)))) 1:=by
  intro h s g L N
  have S:=Si g.ok
  have k:=m.gr g
  have O: ¬(r:Int)<0:=by omega
  have P: ¬(rows:Int)<=(r:Int):=by omega
  have Q: ¬(i:Int)<0:=by omega
  have T: ¬(wide:Int)<=(i:Int):=by omega
  have U:=k.r.load1 (o:=2) rfl
  have V:=k.r.load1 (o:=3) rfl
  have W:=k.r.lt g.ok
  refine ac (n:=46) (rs:=[.tmp 8]) rfl Tryz.e97 rfl rfl rfl (lbt rfl) ?_
  simp only [BS,LB,Nat.reduceLT,Nat.reduceEqDiff,O]
  refine am (mH S.ok k.bits) ?_;intro h1 u;replace S:=S.call u
  simp only [BS,LB,Nat.reduceLT,Nat.reduceEqDiff,P,Q]
  refine am (j8 S.ok (k.gr u).bits) ?_;intro X z;replace S:=S.call z
  have a:=u.trans z
  have Y:=a.load U
  have Z:=a.load V
  simp only [BS,LB,Nat.reduceLT,Nat.reduceEqDiff,T]
  refine aw (aB rfl) (q:=0) (ps:=[]) (by kernel_rfl) ?_
  simp only [BS,LB,cls,Nat.reduceLT,Nat.reduceEqDiff,Nat.reduceAdd,Nat.reducePow,Nat.reduceDiv,Nat.reduceMod,Nat.reduceLeDiff,F0f,Y,Z,G,H,I,J,y,lj (n:=8) (by decide),lc (n:=8) (by decide),b_shl8 t]
  refine da (set1_ok S.ok (k.b.gr a) y (k.lt _) t (a.load L) N) ?_
  rintro v h3 ⟨A,rfl,R3⟩
  have vv:leaves X h3 bp=true:=pN (A.get bp (Xb W a.n) l)
  simp only [BS,LB,cls,ab,Nat.reduceLT,Nat.reduceEqDiff,Nat.reduceAdd,Nat.reducePow,Nat.reduceDiv,Nat.reduceMod,Nat.reduceLeDiff]
  exact⟨(a.fr (M:=(· =bb))).trans A (fun c w=>.inl w),R3⟩
 have S:=Si x
 have zb:=m.b.lt x
 refine ac (n:=14) (rs:=[.tmp 8]) rfl Tryz.e96 rfl rfl rfl (lbt rfl) ?_
 simp only [BS,Nat.reduceLT]
 refine ag (bN (by exact oz)) S ?_;clear S;intro h s S C
 simp only [BS,LB,Nat.reduceLT,Nat.reduceEqDiff]
 have k7:=S.fr.n
 refine step_ret (K S.gr (S.ld m0 rfl) (by omega)) ?_
 rintro v h ⟨f,rfl,R⟩
 simp only [BS,LB,ab,Nat.reduceLT,Nat.reduceEqDiff]
 have D:Mo (· =bb) h0 h:=(S.gr.fr (M:=(· =bb))).trans f (fun c w=>.inl w)
 refine⟨D,D.has (o:=.row _ 1) m.r l,R,fun j=>?_⟩
 unfold c8
 split
 . exact setB_lt (m.lt _) t
 . exact m.lt _
end
theorem iY{n:Nat}{f:Nat->Bool}:(zO (n+1)).filter f=(zO n).filter f++if f n=true then [n]else []:=by
 rw [List.range_succ,List.filter_append]
 congr 1
 by_cases h:f n=true
 . simp [h]
 . simp [h]
theorem rf{f:Nat->Bool}{i:Nat}(h:f i=true): ∀n,i<n->((zO n).filter f)[((zO i).filter f).length]? =some i:=by
 intro n
 induction n with
 |zero=>intro a;omega
 | succ n b=>
   intro a
   rw [iY]
   by_cases c:i<n
   . have:=b c
     rw [Xk (List.getElem?_eq_some_iff.1 this).1];exact this
   . have:i=n:=by omega
     subst this
     rw [Xu (Xl _),if_pos h]
     simp
theorem pY{n:Nat}{f:Nat->Bool}:((zO n).filter f).length<=n:=by
 have:=List.length_filter_le f (zO n)
 rwa [List.length_range]at this
theorem bOn_ok{h0:Hp}(e:h0.t.Sized h0.n){d r:Nat}:Ret zM 238 [ptrTo d,.int .i64 (r:Nat)] h0 fun v c=>Gr h0 c/\ ∃b2 b3,v=.func (.func 263) #[] #[ptrTo b2,ptrTo b3]/\h0.n<=b2/\h0.n<=b3/\c.load b2 0 1=some [ptrTo d]/\c.load b3 0 1=some [.int .i64 (r:Nat)]:=by
 have S:=Si e
 refine ac (n:=6) (rs:=[.tmp 4]) rfl Tryz.e238 rfl rfl rfl (lbt rfl) ?_
 simp only [BS,Nat.reduceLT]
 refine ag (bN (by exact ct)) S ?_;clear S;intro h b2 S a
 simp only [BS,Nat.reduceLT,Nat.reduceEqDiff,if_false]
 refine ag (bN (by exact bU)) S ?_;clear S;intro h b3 S b
 simp only [BS,LB,ab,Nat.reduceLT,Nat.reduceEqDiff]
 exact⟨S.gr,b2,b3,rfl,a,b,S.ld m1 rfl,S.ld m0 rfl⟩
section
variable{h0:Hp}{bp bb rows wide long:Nat}{B:Nat->Nat}
theorem gX.its{D:Nat->Prop}{h:Hp}{F:List Nat}(s:ItS h0 D h F)(a:h0.t.Sized h0.n)(m:gX h0 bp bb rows wide long B)(b:D bp)(c:D bb):gX h bp bb rows wide long B:=
 ⟨Row.of_get (s.data bp (m.r.lt a) b) m.r,Row.of_get (s.data bb (m.b.lt a) c) m.b,m.lt⟩
theorem on1_it (b:h0.t.Sized h0.n) (m:gX h0 bp bb rows wide long B) {r:Nat} (A:r<rows) (d:rows<=100) (e:wide<=1000) (f:long=(wide+7)/8) {b2 b3:Nat} (u:h0.load b2 0 1=some [ptrTo bp]) (C:h0.load b3 0 1=some [.int .i64 (r:Nat)]):
 kU zM 263 [] [ptrTo b2,ptrTo b3] h0 (fun c=>c=b2\/c=b3\/c=bp\/c=bb) (((zO wide).filter (fJ B long r)).map fun(i:Nat)=>[.int .i64 (i:Nat)]):=by
 intro D J Z E Y h F s g
 have k:=s.load b u (.inl rfl)
 refine enter (n:=21) (rs:=[]) rfl Tryz.e263 rfl rfl rfl (lbt rfl) ?_
 simp only [BS,LB,Nat.reduceLT,F0g,k]
 refine am (j8 s.ok (m.its s b (.inr (.inr (.inl rfl))) (.inr (.inr (.inr rfl)))).bits) ?_
 intro M o
 have x:=s.gr o
 have y:=Y.gr _ _ _ _ g o
 simp only [BS]
 refine aQ (fun(i:Nat) j h=>i<=wide/\ ∃F,ItS h0 (fun c=>c=b2\/c=b3\/c=bp\/c=bb) h F/\J ((zO i).filter (fJ B long r)).length h F/\j 0=.func (.yield D) #[] #[]/\j 1=ptrTo b2/\j 2=ptrTo b3/\j 6=.int .i64 (wide:Nat)/\j 7=.int .i64 i) (fun i=>wide-i) ?_ 0 _ _ ?_
 . clear k s g x y F o h
   intro i z j h ⟨hi,F,s,g,r0,r1,r2,r6,r7⟩
   have w:an .i64 ((i:Int)+1)=((i+1:Nat):Int):=by rw [wrap64]<;>omega
   by_cases hlt:i<wide
   . have k:=s.load b u (.inl rfl)
     have G:=s.load b C (.inr (.inl rfl))
     have H:=m.its s b (.inr (.inr (.inl rfl))) (.inr (.inr (.inr rfl)))
     simp only [BS,LB,Nat.reduceLT,Nat.reduceEqDiff,F0g,r1,r2,r6,r7,aA,hlt,k,G]
     refine am (bGet_ok s.ok H A hlt d e f) ?_
     intro N l
     cases p:fJ B long r i with
     | true=>
       have I:(((zO wide).filter (fJ B long r)).map fun(i:Nat)=>[Value.int .i64 (i:Nat)])[((zO i).filter (fJ B long r)).length]? =some [.int .i64 (i:Nat)]:=by
        rw [Xi,rf p _ hlt];rfl
       have q:((zO (i+1)).filter (fJ B long r)).length=((zO i).filter (fJ B long r)).length+1:=by rw [iY,if_pos p];simp
       simp only [BS,LB,Nat.reduceLT,Nat.reduceEqDiff,r0]
       refine cH Y (s.gr l) (Y.gr _ _ _ _ g l) (i:=((zO i).filter (fJ B long r)).length) I ?_ ?_ ?_
       . intro t K a L _ _
         simp only [BS,LB,Nat.reduceLT,Nat.reduceEqDiff,r7,w]
         exact z (i+1) _ _ (by omega) ⟨by omega,K,L,by rw [q];exact a,by simp [aa,r0],by simp [aa,r1,ae],by simp [aa,r2,ae],by simp [aa,r6],by simp [aa]⟩
       . intro t a _
         simp only [BS,LB,Nat.reduceLT,Nat.reduceEqDiff]
         exact fm rfl ⟨rfl,.inr (.inl ⟨_,rfl,a⟩)⟩
       . intro v t a
         exact absurd a (E v t)
     | false=>
       have q:(zO (i+1)).filter (fJ B long r)=(zO i).filter (fJ B long r):=by rw [iY,if_neg (by rw [p];decide)];simp
       simp only [BS,LB,Nat.reduceLT,Nat.reduceEqDiff,r7,w]
       exact z (i+1) _ _ (by omega) ⟨by omega,F,s.gr l,by rw [q];exact Y.gr _ _ _ _ g l,by simp [aa,r0],by simp [aa,r1,ae],by simp [aa,r2,ae],by simp [aa,r6],by simp [aa]⟩
   . simp only [BS,LB,Nat.reduceLT,r6,r7,aA,hlt]
     have:i=wide:=by omega
     subst this
     exact bT (cG ⟨rfl,_,rfl,rfl,.inl ⟨_,F,rfl,by simpa using g⟩⟩)
 . exact⟨Xg _,F,x,y,by simp [aa,bV],by simp [aa,bV,ae],by simp [aa,bV,ae],by simp [aa],by simp [aa]⟩
theorem bRow_ok(H:h0.t.Sized h0.n)(m:gX h0 bp bb rows wide long B){r:Nat}(hr:r<rows)(s:rows<=100)(d:wide<=1000)(t:long=(wide+7)/8):
 Ret zM 179 [ptrTo bp,.int .i64 (r:Nat)] h0 fun v w=>Gr h0 w/\av w 1 ce v ((zO wide).filter (fJ B long r))/\ ∀c,ar v c->h0.n<=c:=by
 have S:=Si H
 refine ac (n:=15) (rs:=[.cell 4 33]) rfl Tryz.e179 rfl rfl rfl (lbt rfl) ?_
 simp only [BS,FV]
 refine ag ax S ?_;clear S;intro h p S R
 simp only [BS,LB,Nat.reduceLT,Nat.reduceEqDiff]
 have k4:=(S.row (b:=p) m0).lt S.ok
 refine step_ret (bOn_ok S.ok) ?_
 rintro v U ⟨g,b2,b3,rfl,n2,n3,y2,y3⟩
 have I:=m.gr (S.gr.trans g)
 replace S:=S.call g
 have V:=on1_it S.ok I hr s d t y2 y3
 have zp:=I.r.lt S.ok
 have zb:=I.b.lt S.ok
 have wp:=m.r.lt H
 have wb:=m.b.lt H
 generalize J:(zO wide).filter (fJ B long r)=f at V
 have af:f.length<=1000:=by rw [<-J];exact Xd pY d
 simp only [BS]
 replace S:=S.nilG (k:=1)
 refine fT S (g:=263) (a:=#[]) (b:=#[ptrTo b2,ptrTo b3]) (by simp [ca,aa,ae]) rfl rfl ?_
 intro K G u A M N W
 obtain⟨X,Y,A⟩: ∃X:ez,X=_/\St NoM h0 K [(u,.loop X),(G,.dfr),(p,.row [.slice none 0 0] 1)] [(.slice none 0 0,1,[])]:=⟨_,rfl,A⟩
 have hJ:Yld zM u (fun k w F=> ∃(l:Value),St NoM h0 w [(u,.loop X),(G,.dfr),(p,.row [l] 1)] [(l,1,eA (f.take k))]/\k<=f.length/\F=keys [(u,.loop X),(G,.dfr),(p,.row [l] 1)] [(l,1,eA (f.take k))]/\(∀c∈F,U.n<=c\/c=p)) (fun _ _=>False) (f.map fun(i:Nat)=>[.int .i64 (i:Nat)]):=by
  refine⟨?_,?_,fun _ _ h=>h.elim,?_⟩
  . rintro i h F ⟨l,S,_,rfl,_⟩;exact⟨S.ok,fun b q=>S.key_lt q⟩
  . rintro i h F w ⟨l,S,a,rfl,c⟩ gg;exact⟨l,S.call gg,a,rfl,c⟩
  . rintro i x hR F O ⟨l,S,a,rfl,Z⟩
    have C:i<f.length:=by
     have:=(List.getElem?_eq_some_iff.1 O).1
     simpa using this
    rw [Xi,Xc C]at O
    cases O
    have tk:eA (f.take (i+1))=eA (f.take i)++[.int .i64 (f[i]:Nat)]:=by
     rw [Xe C]
     unfold eA
     rw [List.map_append];rfl
    have tl:(eA (f.take i)).length<=i:=by rw [mi,List.length_take];omega
    generalize f[i]=x at tk
    have ai:Fl l:=(S.gown _ m0).1.fl
    subst Y
    refine fS (S.get m0) (by rw [Tryz.e179];rfl) rfl ?_
    have S0:=S
    have kR:=S.fr.n
    have lim:U.n<=hR.n:=by
     have h1:=Z u (by simp [keys])
     have K:=S.key_lt (b:=u) (by simp [keys])
     omega
    replace S:=S.base
    simp only [BS,LB,Nat.reduceLT,Nat.reduceEqDiff]
    refine eX S (i:=0) rfl rfl rfl rfl rfl ?_
    clear S;intro h S
    simp only [LC]at S
    simp only [BS,LB,Nat.reduceLT,Nat.reduceEqDiff,FV,S.ld (b:=p) (o:=0) m2 rfl]
    refine ag (bI (by exact Tryz.t33.1) (by exact Xp) (by decide) (by rfl)) S ?_;clear S;intro h bs S ad;simp only [LC,aT,bA,ah,Nat.reduceMul,Nat.reduceAdd,Xr,Xm,Xq,Xv]at S
    simp only [BS,LB,Nat.reduceLT,Nat.reduceEqDiff]
    have D:aJ h 1 (.slice (some ⟨bs,0,none⟩) 1 1)=some (1,[.int .i64 (x:Nat)]):=by simp only [aJ];rw [S.lds (b:=bs) (o:=0) (n:=1*1) m0 (lbt rfl)];rfl
    replace S:=S.drop1
    refine dA (S.grow (j:=0) (m:=1) (new:=[.int .i64 (x:Nat)]) rfl Tryz.t33.1 Xp (by decide) Tryz.t33.2.2.2.2.2 D rfl (by decide) rfl (by rw [mi];simp;omega)) ?_
    clear S D;rintro h E S
    simp only [LC]at S
    have P:Fl E:=(S.gown _ m0).1.fl
    simp only [BS,LB,Nat.reduceLT,Nat.reduceEqDiff]
    refine ay (az S (i:=2) rfl Tryz.t33.2.2.1 P (Xj (lbt rfl)) ono) ?_
    clear S;rintro h ⟨S,_⟩
    simp only [LC]at S
    simp only [BS]
    refine dE S (i:=0) rfl ?_
    clear S;intro h S
    simp only [LC]at S
    rw [<-tk]at S
    refine .inl ⟨rfl,_,⟨E,S0.rebase S,by omega,rfl,fun c z=>?_⟩,S.fr,S.key_new⟩
    rcases S.key_new c z with h|h
    . exact Z c h
    . exact .inl (by omega)
 refine eB (V u _ _ (fun _ _ h=>h) hJ K _ ?_ ⟨_,A,Xg _,rfl,fun c z=>?_⟩) fun o rc w y=>iI y ?_
 . refine⟨A.ok,W.n,fun b q _=>W.get b q,fun b q h=>?_,fun b q=>A.key_lt q⟩
   simp only [keys,XZ,X5,X3,dU,XF,Xz,XJ,Xt,or_false]at q
   rcases q with rfl|rfl|rfl
   . omega
   . omega
   . rcases h.2 with e|e|e|e<;>omega
 . simp only [keys,XZ,X5,X3,dU,XF,Xz,XJ,Xt,or_false]at z
   rcases z with rfl|rfl|rfl
   . exact .inl N
   . exact .inl M
   . exact .inr rfl
 . rintro F ⟨l,T,b,rfl,_⟩
   rw [XB,Xn]at T
   subst Y
   refine⟨_,T.get m0,XT,?_⟩
   replace T:=T.dead
   have S:=T
   show Run _ _ _ _ _ _ _ _
   simp only [BS,LB,Nat.reduceLT,Nat.reduceEqDiff,FV,S.ld (b:=p) (o:=0) m1 rfl]
   have P:Fl l:=(T.gown _ m0).1.fl
   clear S
   refine ay (az T (i:=1) rfl Tryz.t33.2.2.1 P (Xj (lbt rfl)) ono) ?_
   clear T;rintro h3 ⟨T,_⟩
   simp only [XG,List.set_cons_succ]at T
   simp only [BS]
   refine dC (fi [G] _ (L:=[(p,_)]) T.base fun h4 Q=>?_)
   refine⟨rfl,(dg (by decide) (by simp only [aO,ae,Nat.reduceEqDiff,reduceIte];exact iM Tryz.t33.2.1 (Q.ld (b:=p) (o:=0) m0 rfl))).2 (dV.2 ⟨(T.rebase Q).gr,(Q.gown _ m0).1.sl (rU _).symm dG (by decide),fun c z=>?_⟩)⟩
   rcases(T.gblk m0 z).1 with h|h
   . exact h
   . exact h.elim
end
end Go.Ab

end
section
namespace Go.Ab
open Go.Proofs
set_option maxRecDepth 10000
def Tryz.FW:=aj t1<|aj t2<|aj t3<|aj t4<|aj t5<|aj t6<|aj t24<|t290
theorem Bc{h0:Hp}(q:h0.t.Sized h0.n){v:Value}{a b:Int}(c:av h0 1 (encI .i64) v [a,b]):aK zM 284 [.func (.func 208) #[] #[],v] h0 (.int .i64 (wy (wy (wy a)+wy b))):=by
 have S:=Si q
 have k:=wy_bd a
 have x:=wy_bd b
 have y:=wy_bd (wy a)
 have r:an .i64 1=1:=rfl
 have s:an .i64 2=2:=rfl
 have t:an .i64 (wy a)=wy a:=by rw [wrap64]<;>omega
 have u:wy (wy a)=wy a:=wy_id k.1 k.2
 have w:an .i64 (wy a+wy b)=wy a+wy b:=by rw [wrap64]<;>omega
 refine ac (n:=22) (rs:=[.tmp 4]) rfl Tryz.e284 rfl rfl rfl (lbt rfl) ?_
 simp only [BS,LB,Nat.reduceLT,Nat.reduceEqDiff,Nat.reduceAdd,Int.cast_ofNat_Int,FW,c.lenq]
 rw [cd]
 obtain⟨l,m,d,e⟩:=c.ix (kd:=.i64) (bK .i64) (i:=0) (by simp)
 replace d:kW (some 1) v (.int .i64 0)=some (.pointer (some ⟨l,m,none⟩)):=d
 replace e:h0.load l m 1=some [.int .i64 a]:=e
 simp only [BS,LB,Nat.reduceLT,Nat.reduceEqDiff,Int.reduceLT,FW,d,e]
 refine am (mM S.ok) ?_;intro h g;replace S:=S.call g;clear g
 simp only [BS,LB,Nat.reduceLT,Nat.reduceEqDiff,t,Int.zero_add]
 refine am (mM S.ok) ?_;intro h g;replace S:=S.call g;clear g
 simp only [BS,LB,Nat.reduceLT,Nat.reduceEqDiff,r,u,Int.zero_add]
 rw [cd]
 obtain⟨o,p,f,j⟩:=(c.gr S.gr).ix (kd:=.i64) (bK .i64) (i:=1) (by simp)
 replace f:kW (some 1) v (.int .i64 1)=some (.pointer (some ⟨o,p,none⟩)):=f
 replace j:h.load o p 1=some [.int .i64 b]:=j
 simp only [BS,LB,Nat.reduceLT,Nat.reduceEqDiff,Int.reduceLT,FW,f,j]
 refine am (mM S.ok) ?_;intro h g;replace S:=S.call g;clear g
 simp only [BS,LB,Nat.reduceLT,Nat.reduceEqDiff,w]
 refine am (mM S.ok) ?_;intro h g;replace S:=S.call g;clear g
 simp only [BS,LB,Nat.reduceLT,Nat.reduceEqDiff,Int.reduceAdd,s]
 rw [cd]
 simp only [BS,LB,ab,Nat.reduceLT,Nat.reduceEqDiff,Int.reduceLT]
 exact S.gr
theorem add_ok{h0:Hp}(e:h0.t.Sized h0.n){a b:Int}:aK zM 282 [.int .i64 a,.int .i64 b] h0 (.int .i64 (wy (wy (wy a)+wy b))):=by
 have S:=Si e
 refine ac (n:=9) (rs:=[.tmp 4]) rfl Tryz.e282 rfl rfl rfl (lbt rfl) ?_
 simp only [BS,LB,Nat.reduceLT,Nat.reduceEqDiff]
 refine ag (bI (by exact Tryz.t24.1) (by exact Tryz.e2E) (by decide) (by rfl)) S ?_;clear S;intro h c S d;simp only [LC,aT,bA,ah,Nat.reduceMul,Nat.reduceAdd,Xr,Xm,Xq,Xv]at S
 simp only [BS,LB,Nat.reduceLT,Nat.reduceEqDiff]
 refine am (Bc S.ok (a:=a) (b:=b) (.inr ⟨c,0,none,2,rfl,Xl _,S.lds (b:=c) (o:=0) (n:=2*1) m0 (lbt rfl)⟩)) ?_;intro h g;replace S:=S.call g;clear g
 simp only [BS,LB,ab,Nat.reduceLT,Nat.reduceEqDiff]
 exact S.gr
def Tryz.F0W:=aj t1<|aj t2<|aj t3<|aj t4<|aj t33<|aj t77<|Z6
def Tryz.FX:=aj t1<|aj t2<|aj t3<|aj t4<|aj Z0<|aj t32<|aj t33<|aj t77<|aj Z2<|aj Z6<|aj t189<|Z1
structure eS(h:Hp)(nb:Nat)(p:Value)(N:Nat)(m:List Int)(c:Nat->Nat):Prop where
 at0:jV h nb p m
 len:m.length=N
 val: ∀v,v<N->m.getD v 0=(c v:Int)
theorem eS.gr{h a:Hp}{b N:Nat}{p:Value}{m:List Int}{c:Nat->Nat}(x:eS h b p N m c)(g:Gr h a):eS a b p N m c:=⟨x.at0.gr g,x.len,x.val⟩
theorem eS.keep{h a:Hp}{d N:Nat}{p:Value}{m:List Int}{c:Nat->Nat}(e:h.t.Sized h.n)(x:eS h d p N m c)(g:dT h a):eS a d p N m c:=by
 obtain⟨b,v,rfl,r,s,f,i⟩:=x.at0
 exact⟨⟨b,v,rfl,g.row e r,s.keep e g,f,i⟩,x.len,x.val⟩
theorem rM{h0:Hp}(e:h0.t.Sized h0.n){f N:Nat}{p:Value}{m:List Int}{c:Nat->Nat}(x:eS h0 f p N m c){v:Nat}(g:v<N):aK zM 38 [p,.int .i64 (v:Nat)] h0 (.int .i64 (c v:Nat)):=by
 have S:=Si e
 obtain⟨b,t,rfl,r,s,_,_⟩:=x.at0
 have h:=r.load1 (o:=0) rfl
 have u:=x.len
 have j: ¬(v:Int)<0:=by omega
 have k: ¬(m.length:Int)<=(v:Int):=by omega
 obtain⟨d,o,l,a⟩:=s.ix (kd:=.i64) (bK .i64) (i:=v) (by omega)
 have q:m[v]'(by omega)=(c v:Int):=by
  rw [<-x.val v g,Xa,Xc (by omega)];rfl
 rw [q]at a
 replace a:h0.load d o 1=some [.int .i64 (c v:Nat)]:=a
 refine ac (n:=27) (rs:=[.tmp 4]) rfl Tryz.e38 rfl rfl rfl (lbt rfl) ?_
 simp only [BS,LB,ab,Nat.reduceLT,Nat.reduceEqDiff,F0W,j,h,s.lenq,k,l,a]
 exact S.gr
theorem inside_ok{h0:Hp}(z:h0.t.Sized h0.n){B mb q N:Nat}{p:Value}{d:Gra}{m:List Int}{c:Nat->Nat}(j:Good d)(C:aV h0 B (ptrTo q) d)(x:eS h0 mb p d.nodes m c){k a:Nat}(l:a<d.arcs.length):
 aK zM 232 [ptrTo q,p,.int .i64 (k:Nat),.int .i64 (a:Nat)] h0 (.bool (decide (c (d.arcs.getD a default).s=k/\c (d.arcs.getD a default).t=k))):=by
 have S:=Si z
 have I:Fl p:=by obtain⟨b,_,rfl,_⟩:=x.at0;exact ct
 have r:d.arcs[a]=d.arcs.getD a default:=by simp [Xa,l]
 have D:d.arcs.getD a default∈d.arcs:=by rw [<-r];exact Xf l
 obtain⟨s,t,_⟩:=j.arcs _ D
 refine ac (n:=34) (rs:=[.tmp 8]) rfl Tryz.e232 rfl rfl rfl (lbt rfl) ?_
 simp only [BS,LB,Nat.reduceLT,Nat.reduceEqDiff]
 refine step_ret (kL S.ok C l) ?_
 rintro J h ⟨E,rfl⟩
 replace S:=S.call E
 rw [r]
 generalize d.arcs.getD a default=A at s t
 simp only [BS,LB,Nat.reduceLT,Nat.reduceEqDiff,FX,cP]
 refine ag ax S ?_;clear S;intro h u S v
 simp only [BS,LB,Nat.reduceLT,Nat.reduceEqDiff]
 refine ay (S.store (i:=0) rfl ?_ ?_ rfl rfl ?_ ono) ?_
 . exact(by exact Tryz.t99.2.1)
 . exact(by intro x e;cases e)
 . exact lbt rfl
 clear S;rintro h ⟨S,F⟩;clear F;simp only [LC,ah,lay,Xx,Xy,Nat.reduceAdd]at S
 simp only [BS,LB,Nat.reduceLT,Nat.reduceEqDiff,FX,S.ld (b:=u) (o:=0) m0 rfl]
 refine am (rM S.ok (x.gr S.gr) s) ?_
 intro K G;replace S:=S.call G
 by_cases w:c A.s=k
 . have f:(c A.s:Int)=(k:Int):=by omega
   simp only [BS,LB,Nat.reduceLT,Nat.reduceEqDiff,FX,f,S.ld (b:=u) (o:=1) m0 rfl]
   refine am (rM S.ok (x.gr S.gr) t) ?_
   intro L H;replace S:=S.call H
   by_cases y:c A.t=k
   . have g:(c A.t:Int)=(k:Int):=by omega
     simp only [BS,LB,ab,Nat.reduceLT,Nat.reduceEqDiff,g]
     exact⟨by rw [decide_eq_true ⟨w,y⟩],S.gr⟩
   . have g: ¬(c A.t:Int)=(k:Int):=by omega
     simp only [BS,LB,ab,Nat.reduceLT,Nat.reduceEqDiff,g]
     exact⟨by rw [decide_eq_false (fun h=>y h.2)],S.gr⟩
 . have f: ¬(c A.s:Int)=(k:Int):=by omega
   simp only [BS,LB,ab,Nat.reduceLT,Nat.reduceEqDiff,f]
   exact⟨by rw [decide_eq_false (fun h=>w h.1)],S.gr⟩
end Go.Ab
end
section
namespace Go.Ab
open Go.Proofs
set_option maxRecDepth 10000
def Tryz.F0h:=aj t1<|aj t2<|aj t3<|aj t4<|aj t5<|aj t6<|aj Z3<|aj t33<|t196
def Tryz.FI:=aj t1<|aj t2<|aj t3<|aj t4<|aj Z0<|aj t32<|aj t33<|aj t77<|aj Z2<|aj Z6<|aj t189<|Z1
def Tryz.FY:=aj t1<|aj t3<|aj t4<|aj Z0<|aj t32<|aj t33<|aj t77<|aj Z6<|aj t189<|aj Z1<|t196
theorem pairN{x:Option Tch}:jd none x=true:=by cases x<;>rfl
theorem dT.grk{hq h0 h:Hp}(k:dT hq h0)(n:hq.n<=h0.n)(g:Gr h0 h):dT hq h:=fun b a=>(g.get b (Xb a n)).trans (k b a)
def HoldP(E:Env)(hq:Hp)(g:FuncId)(post:List Value)(N:Nat)(f:Nat->Bool):Prop:= ∀h,h.t.Sized h.n->dT hq h->hq.n<=h.n-> ∀v,v<N->aK E g ([.int .i64 (v:Nat)]++post) h (.bool (f v))
theorem indexI_ok{hq h0:Hp}(a:h0.t.Sized h0.n)(s:dT hq h0)(p:hq.n<=h0.n){v:Value}{xs:List Nat}{N:Nat}{g:FuncId}{post:Array Value}{f:Nat->Bool}(l:av h0 1 ce v xs)(D:xs.length<=1000)(t: ∀x∈xs,x<N)(hf:HoldP zM hq g post.toList N f):
 Ret zM 209 [v,.func (.func g) #[] post] h0 fun r u=>Gr h0 u/\ ∃z:Int,r=.int .i64 z/\(0<=z↔xs.any f=true):=by
 have S:=Si a
 have E:=l.fl
 refine ac (n:=19) (rs:=[.tmp 4]) rfl Tryz.e209 rfl rfl rfl (lbt rfl) ?_
 simp only [BS,LB,Nat.reduceLT,Nat.reduceEqDiff,F0h,l.lenq]
 refine aQ (fun(i:Nat) b h=>i<=xs.length/\Gr h0 h/\(∀j,(k:j<xs.length)->j<i->f xs[j]=false)/\b 0=v/\b 1=.func (.func g) #[] post/\b 7=.int .i64 (xs.length:Nat)/\b 8=.int .i64 i) (fun i=>xs.length-i) ?_ 0 _ _ ?_
 . clear S
   intro i y b h ⟨hi,g1,hno,r0,r1,r7,r8⟩
   have w:an .i64 ((i:Int)+1)=((i+1:Nat):Int):=by rw [wrap64]<;>omega
   by_cases hlt:i<xs.length
   . obtain⟨c,o,A,m⟩:=(l.gr g1).ix (kd:=.i64) dG hlt
     replace m:h.load c o 1=some [.int .i64 (xs[i]:Nat)]:=m
     simp only [BS,LB,Nat.reduceLT,Nat.reduceEqDiff,F0h,r0,r1,r7,r8,aA,hlt,A,m]
     refine am (hf _ g1.ok (s.grk p g1) (Xd p g1.n) xs[i] (t _ (Xf hlt))) ?_
     intro F q
     cases d:f xs[i]with
     | true=>
       simp only [BS,LB,ab,Nat.reduceLT,Nat.reduceEqDiff]
       refine⟨g1.trans q,_,rfl,⟨fun _=>List.any_eq_true.2 ⟨_,Xf hlt,d⟩,fun _=>by omega⟩⟩
     | false=>
       simp only [BS,LB,Nat.reduceLT,Nat.reduceEqDiff,r8,w]
       refine y (i+1) _ _ (by omega) ⟨by omega,g1.trans q,fun j k B=>?_,by simp [aa,r0],by simp [aa,r1],by simp [aa,r7],by simp [aa]⟩
       by_cases e:j=i
       . subst e;exact d
       . exact hno j k (by omega)
   . simp only [BS,LB,ab,Nat.reduceLT,Nat.reduceEqDiff,r7,r8,aA,hlt]
     refine⟨g1,_,rfl,⟨fun h=>by omega,fun h=>?_⟩⟩
     obtain⟨x,C,d⟩:=List.any_eq_true.1 h
     obtain⟨j,k,e⟩:=List.getElem_of_mem C
     rw [<-e,hno j k (by omega)]at d
     cases d
 . exact⟨Xg _,Gr.refl a,fun j _ h=>by omega,by simp [aa,bV],by simp [aa,bV],by simp [aa],by simp [aa]⟩
theorem y8{hq h0:Hp}(a:h0.t.Sized h0.n)(j:dT hq h0)(k:hq.n<=h0.n){v:Value}{xs:List Nat}{N:Nat}{g:FuncId}{post:Array Value}{f:Nat->Bool}(d:av h0 1 ce v xs)(l:xs.length<=1000)(m: ∀x∈xs,x<N)(hf:HoldP zM hq g post.toList N f):
 aK zM 131 [v,.func (.func g) #[] post] h0 (.bool (xs.any f)):=by
 have S:=Si a
 have o:=d.fl
 refine ac (n:=9) (rs:=[.tmp 4]) rfl Tryz.e131 rfl rfl rfl (lbt rfl) ?_
 simp only [BS,LB,Nat.reduceLT,Nat.reduceEqDiff]
 refine step_ret (indexI_ok a j k d l m hf) ?_
 rintro r h ⟨e,z,rfl,i⟩
 cases b:xs.any f with
 | true=>
   have c:=i.2 b
   simp only [BS,LB,ab,Nat.reduceLT,Nat.reduceEqDiff,c]
   exact e
 | false=>
   have c: ¬0<=z:=fun h=>by rw [i.1 h]at b;cases b
   simp only [BS,LB,ab,Nat.reduceLT,Nat.reduceEqDiff,c]
   exact e
section
variable{hq:Hp}{γ:Gra}{nb mb bp k:Nat}{p:Value}{m:List Int}{c:Nat->Nat}
def beyB(γ:Gra)(c:Nat->Nat)(k a:Nat):Bool:=!decide (c (γ.arcs.getD a default).s=k)
theorem beyond_ok(f:hq.t.Sized hq.n)(u:Good γ)(H:aV hq nb (ptrTo bp) γ)(x:eS hq mb p γ.nodes m c){b1 b2 b3:Nat}(I:hq.load b1 0 1=some [ptrTo bp])(w:hq.load b2 0 1=some [p])(y:hq.load b3 0 1=some [.int .i64 (k:Nat)]):
 HoldP zM hq 258 [ptrTo b1,ptrTo b2,ptrTo b3] γ.arcs.length (beyB γ c k):=by
 intro h J g K a v
 have S:=Si J
 have z:γ.arcs[a]=γ.arcs.getD a default:=by simp [Xa,v]
 have L:γ.arcs.getD a default∈γ.arcs:=by rw [<-z];exact Xf v
 obtain⟨B,M,_⟩:=u.arcs _ L
 refine ac (n:=24) (rs:=[.tmp 5]) rfl Tryz.e258 rfl rfl rfl (lbt rfl) ?_
 simp only [BS,LB,Nat.reduceLT,Nat.reduceEqDiff,FI,g.load f I]
 refine step_ret (kL S.ok (H.keep f g) v) ?_
 rintro Q R ⟨N,rfl⟩
 replace S:=S.call N
 unfold beyB
 rw [z]
 generalize γ.arcs.getD a default=A at B M
 simp only [BS,LB,Nat.reduceLT,Nat.reduceEqDiff,FI,cP]
 refine ag ax S ?_;clear S;intro h C S D
 simp only [BS,LB,Nat.reduceLT,Nat.reduceEqDiff]
 refine ay (S.store (i:=0) rfl ?_ ?_ rfl rfl ?_ ono) ?_
 . exact(by exact Tryz.t99.2.1)
 . exact(by intro x e;cases e)
 . exact lbt rfl
 clear S;rintro h ⟨S,O⟩;clear O;simp only [LC,ah,lay,Xx,Xy,Nat.reduceAdd]at S
 have l:=g.grk K S.gr
 obtain⟨b,T,rfl,r,s,_,_⟩:=(x.keep f l).at0
 have E:=r.load1 (o:=0) rfl
 have U:=x.len
 obtain⟨d,o,F,t⟩:=s.ix (kd:=.i64) (bK .i64) (i:=A.s) (by omega)
 have P:m[A.s]'(by omega)=(c A.s:Int):=by
  rw [<-x.val A.s B,Xa,Xc (by omega)];rfl
 rw [P]at t
 simp only [encI]at t
 simp only [BS,LB,Nat.reduceLT,Nat.reduceEqDiff]
 refine aw (aB rfl) (q:=0) (ps:=[]) (by kernel_rfl) ?_
 by_cases G:c A.s=k
 . have j:(c A.s:Int)=(k:Int):=by omega
   simp only [BS,LB,cls,ab,Nat.reduceLT,Nat.reduceEqDiff,Nat.reduceAdd,Nat.reducePow,Nat.reduceDiv,Nat.reduceMod,Nat.reduceLeDiff,FI,l.load f w,l.load f y,E,F,t,j,S.ld (b:=C) (o:=0) m0 rfl]
   exact⟨by rw [decide_eq_true G];rfl,S.gr⟩
 . have j: ¬(c A.s:Int)=(k:Int):=by omega
   simp only [BS,LB,cls,ab,Nat.reduceLT,Nat.reduceEqDiff,Nat.reduceAdd,Nat.reducePow,Nat.reduceDiv,Nat.reduceMod,Nat.reduceLeDiff,FI,l.load f w,l.load f y,E,F,t,j,S.ld (b:=C) (o:=0) m0 rfl]
   exact⟨by rw [decide_eq_false G];rfl,S.gr⟩
def borB(γ:Gra)(c:Nat->Nat)(k v:Nat):Bool:=decide (c v=k)&&(outs γ.arcs Arc.t γ.arcs.length v).any (beyB γ c k)
theorem Bo(f:hq.t.Sized hq.n)(j:Good γ)(A:aV hq nb (ptrTo bp) γ)(x:eS hq mb p γ.nodes m c){b1 b2 b3 b4:Nat}(B:hq.load b1 0 1=some [p])(C:hq.load b2 0 1=some [.int .i64 (k:Nat)])(D:hq.load b3 0 1=some [ptrTo bp])(l4:hq.load b4 0 1=some [.func (.func 258) #[] #[ptrTo b3,ptrTo b1,ptrTo b2]]):
 HoldP zM hq 260 [ptrTo b1,ptrTo b2,ptrTo b3,ptrTo b4] γ.nodes (borB γ c k):=by
 intro h l g E v F
 have S:=Si l
 obtain⟨b,vm,rfl,r,s,_,_⟩:=(x.keep f g).at0
 have G:=r.load1 (o:=0) rfl
 have hl:=x.len
 obtain⟨d,o,H,w⟩:=s.ix (kd:=.i64) (bK .i64) (i:=v) (by omega)
 have ev:m[v]'(by omega)=(c v:Int):=by
  rw [<-x.val v F,Xa,Xc (by omega)];rfl
 rw [ev]at w
 replace w:h.load d o 1=some [.int .i64 (c v:Nat)]:=w
 have y:=g.load f B
 have z:=g.load f C
 have I:=g.load f D
 have J:=g.load f l4
 have K:=bJ l y
 have L:=bJ l z
 have M:=bJ l I
 have N:=bJ l J
 have O:=r.lt l
 have P:=bJ l w
 unfold borB
 by_cases Q:c v=k
 . have t:(c v:Int)=(k:Int):=by omega
   refine ac (n:=23) (rs:=[.tmp 6]) rfl Tryz.e260 rfl rfl rfl (lbt rfl) ?_
   simp only [BS,LB]
   refine aw (aB rfl) (q:=0) (ps:=[(12,13)]) (by kernel_rfl) ?_
   simp only [BS,LB,cls,Nat.reduceLT,Nat.reduceEqDiff,Nat.reduceAdd,Nat.reducePow,Nat.reduceDiv,Nat.reduceMod,Nat.reduceLeDiff,FY,y,z,I,G,H,w,t]
   refine da (zg S.ok (A.keep f g) (by have:=j.many;omega) F) ?_
   rintro vl h2 ⟨e,sl,_⟩
   have R:=aq e K
   have T:=aq e L
   have U:=aq e M
   have V:=aq e N
   have W:=aq e O
   have X:=aq e P
   replace S:=S.call e
   simp only [BS,LB,cls,Nat.reduceLT,Nat.reduceEqDiff,Nat.reduceAdd,Nat.reducePow,Nat.reduceDiv,Nat.reduceMod,Nat.reduceLeDiff,FY,e.load J]
   refine bZ (y8 S.ok (g.grk E e) (Xd E e.n) sl (by have:=j.many;have:=kD γ.arcs Arc.t γ.arcs.length v;omega) (fun a ha=>(iQ.1 ha).1) (post:=#[ptrTo b3,ptrTo b1,ptrTo b2]) (beyond_ok f j A x D B C)) ?_
   intro h3 u
   have Y:=aq u (Xb K e.n)
   have Z:=aq u (Xb L e.n)
   have w3:=aq u (Xb M e.n)
   have w4:=aq u (Xb N e.n)
   have wb:=aq u (Xb O e.n)
   have wd:=aq u (Xb P e.n)
   replace S:=S.call u
   simp only [BS,LB,cls,ab,Nat.reduceLT,Nat.reduceEqDiff,Nat.reduceAdd,Nat.reducePow,Nat.reduceDiv,Nat.reduceMod,Nat.reduceLeDiff]
   refine⟨by simp only [bz,bG,aW,bM,a8,ne_eq,not_false_eq_true,bS,cD,bD,bw,ca,c9,aO,Nat.reduceLT,Nat.reduceEqDiff,reduceIte,XK,ae,aP,bW,aI R,aI T,aI U,aI V,aI W,aI X,aE R,aE T,aE U,aE V,aE W,aE X,aI Y,aI Z,aI w3,aI w4,aI wb,aI wd,aE Y,aE Z,aE w3,aE w4,aE wb,aE wd],?_⟩
   exact⟨by rw [decide_eq_true Q,XY],S.gr⟩
 . have t: ¬(c v:Int)=(k:Int):=by omega
   refine ac (n:=23) (rs:=[.tmp 6]) rfl Tryz.e260 rfl rfl rfl (lbt rfl) ?_
   simp only [BS,LB]
   refine aw (aB rfl) (q:=0) (ps:=[(12,13)]) (by kernel_rfl) ?_
   simp only [BS,LB,cls,ab,Nat.reduceLT,Nat.reduceEqDiff,Nat.reduceAdd,Nat.reducePow,Nat.reduceDiv,Nat.reduceMod,Nat.reduceLeDiff,FY,y,z,G,H,w,t]
   refine⟨by simp only [bz,bG,aW,bM,a8,ne_eq,not_false_eq_true,bS,cD,bD,bw,ca,c9,aO,Nat.reduceLT,Nat.reduceEqDiff,reduceIte,XK,ae,aP,bW,rE,pairN],?_⟩
   exact⟨by rw [decide_eq_false Q,Bool.false_and],S.gr⟩
end
end Go.Ab

end
section
namespace Go.Ab
open Go.Proofs
set_option maxRecDepth 10000
def Tryz.F0i:=aj t1<|aj t2<|aj t3<|aj t4<|aj t5<|aj t33<|aj t77<|aj Z6<|t196
def Tryz.FZ:=aj t1<|aj t2<|aj t3<|aj t4<|aj Z0<|aj t32<|aj t33<|aj t77<|aj Z6<|aj t189<|aj Z1<|aj t196<|t250
def Tryz.F0X:=aj t1<|aj t3<|aj t4<|aj Z0<|aj t32<|aj t189<|Z1
def Tryz.Fy:=aj t1<|aj t2<|aj t3<|aj t4<|aj t24<|aj Z0<|aj t32<|aj t33<|aj Z2<|aj t189<|aj Z1<|Z16
def Tryz.F0j:=aj t1<|aj t2<|aj t3<|aj t24<|aj Z0<|aj t32<|aj t33<|aj t189<|aj Z1<|aj t196<|Z16
theorem cnodes_ok{h0:Hp}(e:h0.t.Sized h0.n){p c:Value}(f:Fl p)(g:Fl c):Ret zM 259 [p,c] h0 fun v d=>Gr h0 d/\ ∃b1 b2,v=.func (.func 271) #[] #[ptrTo b1,ptrTo b2]/\h0.n<=b1/\h0.n<=b2/\d.load b1 0 1=some [p]/\d.load b2 0 1=some [c]:=by
 have S:=Si e
 refine ac (n:=6) (rs:=[.tmp 4]) rfl Tryz.e259 rfl rfl rfl (lbt rfl) ?_
 simp only [BS,Nat.reduceLT]
 refine ag (bN (by assumption)) S ?_;clear S;intro h b1 S a
 simp only [BS,Nat.reduceLT,Nat.reduceEqDiff,if_false]
 refine ag (bN (by assumption)) S ?_;clear S;intro h b2 S b
 simp only [BS,LB,ab,Nat.reduceLT,Nat.reduceEqDiff]
 exact⟨S.gr,b1,b2,rfl,a,b,S.ld m1 rfl,S.ld m0 rfl⟩
theorem cnodes_it {hq h0:Hp} (l:hq.t.Sized hq.n) (j:h0.t.Sized h0.n) (B:dT hq h0) (q:hq.n<=h0.n) {mb N:Nat} {p:Value} {m:List Int} {c:Nat->Nat} (x:eS hq mb p N m c) (R:N<=1000) {b1 b2:Nat} {g:FuncId} {post:Array Value} {f:Nat->Bool} (hf:HoldP zM hq g post.toList N f)
 (H:h0.load b1 0 1=some [p]) (I:h0.load b2 0 1=some [.func (.func g) #[] post]):
 kU zM 271 [] [ptrTo b1,ptrTo b2] h0 (fun c=>c=b1\/c=b2\/c<hq.n) (((zO N).filter f).map fun(v:Nat)=>[.int .i64 (v:Nat)]):=by
 intro K J Z L Y h F s d
 have C:=s.load j H (.inl rfl)
 obtain⟨b,S,rfl,r,D,_,_⟩:=(x.keep l (s.keep B q (fun c t=>.inr (.inr t)))).at0
 have E:=r.load1 (o:=0) rfl
 have T:=x.len
 have u:(m.length:Int)=(N:Int):=by omega
 refine enter (n:=25) (rs:=[]) rfl Tryz.e271 rfl rfl rfl (lbt rfl) ?_
 simp only [BS,LB,Nat.reduceLT,Nat.reduceEqDiff,F0i,C,E,D.lenq,u]
 refine aQ (fun(i:Nat) e h=>i<=N/\ ∃F,ItS h0 (fun c=>c=b1\/c=b2\/c<hq.n) h F/\J ((zO i).filter f).length h F/\e 0=.func (.yield K) #[] #[]/\e 1=ptrTo b1/\e 2=ptrTo b2/\e 11=.int .i64 (N:Nat)/\e 12=.int .i64 i) (fun i=>N-i) ?_ 0 _ _ ?_
 . clear C s d F r D E h
   intro i G e h ⟨hi,F,s,d,r0,r1,r2,r11,r12⟩
   have w:an .i64 ((i:Int)+1)=((i+1:Nat):Int):=by rw [wrap64]<;>omega
   by_cases hlt:i<N
   . have M:=s.load j I (.inr (.inl rfl))
     simp only [BS,LB,Nat.reduceLT,Nat.reduceEqDiff,F0i,r2,r11,r12,aA,hlt,M]
     refine am (hf _ s.ok (s.keep B q (fun c t=>.inr (.inr t))) (Xd q s.n) i hlt) ?_
     intro U k
     cases y:f i with
     | true=>
       have O:(((zO N).filter f).map fun(v:Nat)=>[Value.int .i64 (v:Nat)])[((zO i).filter f).length]? =some [.int .i64 (i:Nat)]:=by
        rw [Xi,rf y _ hlt];rfl
       have z:((zO (i+1)).filter f).length=((zO i).filter f).length+1:=by rw [iY,if_pos y];simp
       simp only [BS,LB,Nat.reduceLT,Nat.reduceEqDiff,r0]
       refine cH Y (s.gr k) (Y.gr _ _ _ _ d k) (i:=((zO i).filter f).length) O ?_ ?_ ?_
       . intro A P a Q _ _
         simp only [BS,LB,Nat.reduceLT,Nat.reduceEqDiff,r12,w]
         exact G (i+1) _ _ (by omega) ⟨by omega,P,Q,by rw [z];exact a,by simp [aa,r0],by simp [aa,r1,ae],by simp [aa,r2,ae],by simp [aa,r11],by simp [aa]⟩
       . intro A a _
         simp only [BS,LB,Nat.reduceLT,Nat.reduceEqDiff]
         exact fm rfl ⟨rfl,.inr (.inl ⟨_,rfl,a⟩)⟩
       . intro v A a
         exact absurd a (L v A)
     | false=>
       have z:(zO (i+1)).filter f=(zO i).filter f:=by rw [iY,if_neg (by rw [y];decide)];simp
       simp only [BS,LB,Nat.reduceLT,Nat.reduceEqDiff,r12,w]
       exact G (i+1) _ _ (by omega) ⟨by omega,F,s.gr k,by rw [z];exact Y.gr _ _ _ _ d k,by simp [aa,r0],by simp [aa,r1,ae],by simp [aa,r2,ae],by simp [aa,r11],by simp [aa]⟩
   . simp only [BS,LB,Nat.reduceLT,r11,r12,aA,hlt]
     have:i=N:=by omega
     subst this
     exact bT (cG ⟨rfl,_,rfl,rfl,.inl ⟨_,F,rfl,by simpa using d⟩⟩)
 . exact⟨Xg _,F,s,d,by simp [aa,bV],by simp [aa,bV,ae],by simp [aa,bV,ae],by simp [aa],by simp [aa]⟩
theorem border_ok{h0:Hp}(z:h0.t.Sized h0.n){a:Gra}{T mb E k:Nat}{p:Value}{m:List Int}{c:Nat->Nat}(j:Good a)(F:aV h0 T (ptrTo E) a)(x:eS h0 mb p a.nodes m c):
 Ret zM 233 [p,ptrTo E,.int .i64 (k:Nat)] h0 fun r G=>Gr h0 G/\av G 1 ce r ((zO a.nodes).filter (borB a c k))/\ ∀c,ar r c->h0.n<=c:=by
 have S:=Si z
 have fp:Fl p:=by obtain⟨b,_,rfl,_⟩:=x.at0;exact ct
 obtain⟨bc,U,rfl,r,s,_,_⟩:=x.at0
 have V:=r.load1 (o:=0) rfl
 have W:=x.len
 have X:=j.n1
 have n2:=j.n2
 have A:(m.length:Int)=(a.nodes:Int):=by omega
 obtain⟨H,ov,sv,cv,Y⟩: ∃d o s c,U=.slice (some ⟨d,o,s⟩) m.length c:=by
  rcases s with⟨_,e⟩|⟨d,o,s,c,e,_⟩
  . subst e;simp at W;omega
  . exact⟨d,o,s,c,e⟩
 subst Y
 have B:H<h0.n:=s.lt z (b:=H) rfl
 refine ac (n:=29) (rs:=[.tmp 6]) rfl Tryz.e233 rfl rfl rfl (lbt rfl) ?_
 simp only [BS,Nat.reduceLT]
 refine ag (bN (by exact ct)) S ?_;clear S;intro h l S I
 simp only [BS,Nat.reduceLT,Nat.reduceEqDiff,if_false]
 refine ag (bN (by exact ct)) S ?_;clear S;intro h u S J
 simp only [BS,Nat.reduceLT,Nat.reduceEqDiff,if_false]
 refine ag (bN (by exact bU)) S ?_;clear S;intro h K S L
 have Z:=(S.row (b:=l) m2).lt S.ok
 have z4:=(S.row (b:=u) m1).lt S.ok
 have zc:=Xb (r.lt z) S.gr.n
 have zd:=Xb B S.gr.n
 have C:=S.gr.load V
 have s':=s.gr S.gr
 simp only [BS]
 refine aw (aB rfl) (q:=0) (ps:=[(8,13),(8,12),(8,9)]) (by kernel_rfl) ?_
 simp only [BS,LB,cls,Nat.reduceLT,Nat.reduceEqDiff,Nat.reduceAdd,Nat.reducePow,Nat.reduceDiv,Nat.reduceMod,Nat.reduceLeDiff,FZ,S.ld (b:=l) (o:=0) m2 rfl,S.ld (b:=u) (o:=0) m1 rfl]
 refine bZ (cC S.ok (F.gr S.gr)) ?_
 intro h1 t
 have M:=aq t Z
 have N:=aq t z4
 have O:=aq t zc
 have P:=aq t zd
 have w:=t.load C
 replace S:=S.call t
 simp only [BS,LB,cls,Nat.reduceLT,Nat.reduceEqDiff,Nat.reduceAdd,Nat.reducePow,Nat.reduceDiv,Nat.reduceMod,Nat.reduceLeDiff,FZ,w,s'.lenq,A,S.ld (b:=l) (o:=0) m2 rfl,S.ld (b:=u) (o:=0) m1 rfl]
 refine⟨by simp only [bz,bG,aW,bM,a8,ne_eq,not_false_eq_true,bS,cD,bD,bw,ca,c9,aO,Nat.reduceLT,Nat.reduceEqDiff,reduceIte,XK,ae,yA,aI M,aI N,aI O,aE M,aE N,aE O,aI P,aE P],?_⟩
 refine ag ax S ?_;clear S;intro h Q S R
 simp only [BS,LB,Nat.reduceLT,Nat.reduceEqDiff]
 refine ay (az S (i:=0) rfl Tryz.t196.2.1 gY (Xj (lbt rfl)) ono) ?_
 clear S;rintro h2 ⟨S,_⟩
 simp only [LC]at S
 simp only [BS,LB,Nat.reduceLT,Nat.reduceEqDiff,FZ,S.ld (b:=l) (o:=0) m3 rfl]
 have D:=S.gr
 have y:=S.ok
 have l3:=S.ld (b:=l) (o:=0) m3 rfl
 have l4:=S.ld (b:=u) (o:=0) m2 rfl
 have l5:=S.ld (b:=K) (o:=0) m1 rfl
 have l7:=S.ld (b:=Q) (o:=0) m0 rfl
 have hf:=Bo y j (F.gr D) (x.gr D) l3 l5 l4 l7
 refine step_ret (cnodes_ok S.ok ct gY) ?_
 rintro v h4 ⟨g,b1,b2,rfl,X,ad,y1,y2⟩
 have it:=cnodes_it y g.ok g.keep g.n (x.gr D) (by omega) (g:=260) (post:=#[ptrTo l,ptrTo K,ptrTo u,ptrTo Q]) hf y1 y2
 replace S:=S.call g
 simp only [BS,LB,Nat.reduceLT,Nat.reduceEqDiff]
 refine step_ret (sS S.ok (g:=271) (post:=#[ptrTo b1,ptrTo b2]) (iter_w it) (fun _ h=>h.elim) (by have:=pY (n:=a.nodes) (f:=borB a c k);omega)) ?_
 rintro r h5 ⟨f5,G5,d5⟩
 have g5:=f5.gr
 have k5:=S.fr.n
 replace S:=S.call g5
 simp only [BS,LB,ab,Nat.reduceLT,Nat.reduceEqDiff]
 exact⟨S.gr,G5.sl rfl dG (by decide),fun c hc=>by have:=d5 c hc;omega⟩
theorem AH{h0:Hp}(d:h0.t.Sized h0.n){a:Gra}{e c b:Nat}(f:aV h0 e (ptrTo c) a)(j:b<a.nodes):aK zM 272 [ptrTo c,.int .i64 (b:Nat)] h0 (.bool true):=by
 have S:=Si d
 have g:(0:Int)<=(b:Int):=by omega
 have h:(b:Int)<(a.nodes:Int):=by omega
 refine ac (n:=17) (rs:=[.tmp 4]) rfl Tryz.e272 rfl rfl rfl (lbt rfl) ?_
 simp only [BS,LB,Nat.reduceLT,Nat.reduceEqDiff,F0X,g]
 refine am (cC S.ok f) ?_
 intro k i
 simp only [BS,LB,ab,Nat.reduceLT,Nat.reduceEqDiff,h]
 exact i
noncomputable def jw(c:Gra)(b a:Nat):Bool:=decide (dOf (seen c.arcs Arc.t Arc.s) b (c.arcs.getD a default).s<FAR/\dOf (seen c.arcs Arc.t Arc.s) b (c.arcs.getD a default).t<FAR/\dOf (seen c.arcs Arc.t Arc.s) b (c.arcs.getD a default).s=(c.arcs.getD a default).w+dOf (seen c.arcs Arc.t Arc.s) b (c.arcs.getD a default).t)
def HoldA(E:Env)(hq:Hp)(x:Nat)(g:FuncId)(post:List Value)(N:Nat)(f:Nat->Bool):Prop:= ∀h,h.t.Sized h.n->(∀b,b<hq.n->b≠x->h.get b=hq.get b)->hq.n<=h.n-> ∀v,v<N->aK E g ([.int .i64 (v:Nat)]++post) h (.bool (f v))
theorem kB{h a:Hp}{b o n:Nat}{l:List Value}(e:h.load b o n=some l)(g:a.get b=h.get b):a.load b o n=some l:=by
 unfold Hp.load at e⊢
 rw [g];exact e
theorem sl_get{α:Type}{h a:Hp}{k:Nat}{enc:α->List Value}{v:Value}{xs:List α}(s:av h k enc v xs)(g: ∀c,ar v c->a.get c=h.get c):av a k enc v xs:=by
 rcases s with s|⟨b,o,s,c,d,e,f⟩
 . exact .inl s
 . exact .inr ⟨b,o,s,c,d,e,kB f (g b (by rw [d];rfl))⟩
theorem tells1_ok{g hq:Hp}(C:g.t.Sized g.n)(j:hq.t.Sized hq.n)(W:dT g hq)(L:g.n<=hq.n){x:Nat}(hx:g.n<=x){f:Gra}(D:Good f){X M b b2 b5:Nat}(Y:aV g X (ptrTo M) f)(z:b2≠x)(Z:b5≠x)(N: ∀v,IsD (seen f.arcs Arc.t Arc.s) b v (dOf (seen f.arcs Arc.t Arc.s) b v)){B vA vO:Value}(O:hq.load b2 0 1=some [ptrTo M])(P:hq.load b5 0 1=some [B])(Q:av hq 1 ce B ((zO f.nodes).map (dOf (seen f.arcs Arc.t Arc.s) b)))(xD: ∀c,ar B c->c≠x):
 HoldA zM hq x 281 [ptrTo b2,ptrTo b5] f.arcs.length (jw f b):=by
 intro h ok k nq a E
 have kN:dT g h:=fun c r=>(k c (Xb r L) (by omega)).trans (W c r)
 have nN:g.n<=h.n:=Xd L nq
 have e2:=kB O (k b2 (bJ j O) z)
 have e5:=kB P (k b5 (bJ j P) Z)
 have s:av h 1 ce B _:=sl_get Q (fun c r=>k c (Q.lt j r) (xD c r))
 have S:=Si ok
 have R:f.arcs[a]=f.arcs.getD a default:=by simp [Xa,E]
 have hm:f.arcs.getD a default∈f.arcs:=by rw [<-R];exact Xf E
 obtain⟨hs,ht,hw⟩:=D.arcs _ hm
 unfold jw
 have F:=N (f.arcs.getD a default).s
 have G:=N (f.arcs.getD a default).t
 generalize hd:dOf (seen f.arcs Arc.t Arc.s) b=d at F G s
 refine ac (n:=35) (rs:=[.tmp 4]) rfl Tryz.e281 rfl rfl rfl (lbt rfl) ?_
 simp only [BS,LB,Nat.reduceLT,Nat.reduceEqDiff,Fy,e2]
 refine step_ret (kL S.ok (Y.keep C kN) E) ?_
 rintro rv h4 ⟨g4,rfl⟩
 replace S:=S.call g4
 rw [R]
 generalize f.arcs.getD a default=A at hs ht hw F G
 simp only [BS,LB,Nat.reduceLT,Nat.reduceEqDiff,Fy,cP]
 refine ag ax S ?_;clear S;intro h t S T
 simp only [BS,LB,Nat.reduceLT,Nat.reduceEqDiff]
 refine ay (S.store (i:=0) rfl ?_ ?_ rfl rfl ?_ ono) ?_
 . exact(by exact Tryz.t99.2.1)
 . exact(by intro x e;cases e)
 . exact lbt rfl
 clear S;rintro h ⟨S,mo⟩;clear mo;simp only [LC,ah,lay,Xx,Xy,Nat.reduceAdd]at S
 have u:=s.gr S.gr
 have lD:((zO f.nodes).map d).length=f.nodes:=by simp
 obtain⟨c1,o1,x1,H⟩:=u.ix (kd:=.i64) dG (i:=A.t) (by omega)
 obtain⟨c2,o2,z,U⟩:=u.ix (kd:=.i64) dG (i:=A.s) (by omega)
 simp only [List.getElem_map,List.getElem_range,ce]at H U
 have I:=S.gr.load e5
 have z6:=(S.row (b:=t) m0).lt S.ok
 have z5:=bJ S.ok I
 have zc:=bJ S.ok H
 simp only [BS,LB,Nat.reduceLT,Nat.reduceEqDiff]
 refine aw (aB rfl) (q:=0) (ps:=[]) (by kernel_rfl) ?_
 simp only [BS,LB,cls,Nat.reduceLT,Nat.reduceEqDiff,Nat.reduceAdd,Nat.reducePow,Nat.reduceDiv,Nat.reduceMod,Nat.reduceLeDiff,Fy,I,x1,H,S.ld (b:=t) (o:=1) m0 rfl,S.ld (b:=t) (o:=2) m0 rfl]
 refine bZ (add_ok S.ok) ?_
 intro h7 p
 have v6:=aq p z6
 have v5:=aq p z5
 have vc:=aq p zc
 replace S:=S.call p
 simp only [BS,LB,cls,Nat.reduceLT,Nat.reduceEqDiff,Nat.reduceAdd,Nat.reducePow,Nat.reduceDiv,Nat.reduceMod,Nat.reduceLeDiff]
 have ad:=mR
 have b1:=F.le
 have b2:=G.le
 have J:wy (wy (wy (d A.t:Nat))+wy (A.w:Nat))=(if d A.t+A.w<FAR then((d A.t+A.w:Nat):Int)else(FAR:Int)):=by
  unfold wy
  repeat' split
  all_goals omega
 rw [J]
 have w:=p.load I
 have y:=p.load U
 by_cases hf:d A.t+A.w<FAR
 . rw [if_pos hf]
   have w1:wy ((d A.t+A.w:Nat):Int)<72057594037927936:=by unfold wy;omega
   have K:decide (wy ((d A.t+A.w:Nat):Int)<72057594037927936)=true:=decide_eq_true w1
   refine am (pC S.ok) ?_
   intro h8 l;replace S:=S.call l
   rw [K]
   by_cases V:d A.s=A.w+d A.t
   . have m:((d A.t+A.w:Nat):Int)=(d A.s:Int):=by omega
     simp only [BS,LB,ab,Nat.reduceLT,Nat.reduceEqDiff,Fy,l.load w,z,l.load y,m,S.ld (b:=t) (o:=0) m0 rfl]
     exact⟨by rw [decide_eq_true ⟨by omega,by omega,V⟩],S.gr⟩
   . have m: ¬((d A.t+A.w:Nat):Int)=(d A.s:Int):=by omega
     simp only [BS,LB,ab,Nat.reduceLT,Nat.reduceEqDiff,Fy,l.load w,z,l.load y,m,S.ld (b:=t) (o:=0) m0 rfl]
     exact⟨by rw [decide_eq_false (fun h=>V h.2.2)],S.gr⟩
 . rw [if_neg hf]
   have K:decide (wy (FAR:Int)<72057594037927936)=false:=decide_eq_false (by unfold wy;omega)
   refine am (pC S.ok) ?_
   intro h8 l;replace S:=S.call l
   rw [K]
   simp only [BS,LB,ab,Nat.reduceLT,Nat.reduceEqDiff]
   exact⟨by rw [decide_eq_false (fun h=>by omega)],S.gr⟩
theorem tells_ok{h0 a:Hp}(k:a.t.Sized a.n)(B:h0.t.Sized h0.n)(q:Gr a h0){x:Nat}(C:a.n<=x)(E:x<h0.n){d:Gra}(f:Good d){F s b:Nat}(t:aV a F (ptrTo s) d)(G:b<d.nodes):
 Ret zM 275 [ptrTo s,.int .i64 (b:Nat)] h0 fun r u=>Gr h0 u/\ ∃b2 b5,r=.func (.func 281) #[] #[ptrTo b2,ptrTo b5]/\h0.n<=b2/\h0.n<=b5/\HoldA zM u x 281 [ptrTo b2,ptrTo b5] d.arcs.length (jw d b):=by
 have S:=Si B
 refine ac (n:=10) (rs:=[.tmp 4]) rfl Tryz.e275 rfl rfl rfl (lbt rfl) ?_
 simp only [BS,Nat.reduceLT]
 refine ag (bg (by intro x e;cases e)) S ?_;clear S;intro h b2 S g;simp only [ah]at S
 simp only [BS,LB,Nat.reduceLT,Nat.reduceEqDiff,F0j,S.ld (b:=b2) (o:=0) m0 rfl]
 refine step_ret (uX S.ok f (t.gr (q.trans S.gr)) G) ?_
 rintro r R ⟨H,T,vA,vO,D,U,O,rfl,l,I,J,_,w,K,_⟩
 have V:=S.fr.n
 replace S:=S.call H
 have L:=l.fl
 have M:=I.fl
 have N:=J.fl
 have y:D=dOf (seen d.arcs Arc.t Arc.s) b:=funext fun v=>((dOf_is (w v)).1).symm
 have m: ∀v,IsD (seen d.arcs Arc.t Arc.s) b v (dOf (seen d.arcs Arc.t Arc.s) b v):=fun v=>by rw [<-y];exact w v
 rw [y]at l
 simp only [BS,F0j]
 have P:=S.row (b:=b2) m0
 have W:=S.fr.n
 have j:=S.gr
 have p:=S.ok
 clear S
 have S:=Si p
 refine ag ax S ?_;clear S;intro h b5 S z
 simp only [BS,LB,Nat.reduceLT,Nat.reduceEqDiff]
 refine ay (S.store (i:=0) rfl Tryz.t222.2.1 (by intro x e;cases e) rfl (by simp only [ah,List.all_cons,List.all_nil,L.2.1,M.2.1,N.2.1,XK]) (lbt rfl) ono) ?_
 clear S;rintro X ⟨S,_⟩
 simp only [LC,ah,lay,Xx,Xy,Nat.reduceAdd]at S
 simp only [BS,LB,ab,Nat.reduceLT,Nat.reduceEqDiff]
 refine⟨j.trans S.gr,b2,b5,rfl,g,by omega,?_⟩
 have A:=q.trans (j.trans S.gr)
 exact tells1_ok k S.ok A.keep A.n C f t (by omega) (by omega) m (vA:=vA) (vO:=vO) ((P.gr S.gr).load1 (o:=0) rfl) (S.ld (b:=b5) (o:=0) m0 rfl) (l.gr S.gr) (fun c Q e=>by have:=K c (.inl Q);omega)
def Tryz.F0k:=aj t1<|aj t2<|aj t3<|aj t4<|t196
def Tryz.F0l:=aj t1<|aj t2<|aj t3<|aj t4<|aj t9<|aj t74<|t250
def Tryz.FJ:=aj t1<|aj t2<|aj t3<|aj t4<|aj t5<|aj t6<|aj Z3<|aj Z4<|aj t9<|aj t10<|aj Z0<|aj t32<|aj t33<|aj t74<|aj t189<|aj Z1<|aj t196<|t250
theorem marked_ok{h0:Hp}(e:h0.t.Sized h0.n){n:Nat}{c:Value}(f:Fl c):Ret zM 274 [.int .i64 (n:Nat),c] h0 fun v d=>Gr h0 d/\ ∃b1 b2,v=.func (.func 280) #[] #[ptrTo b1,ptrTo b2]/\h0.n<=b1/\h0.n<=b2/\d.load b1 0 1=some [.int .i64 (n:Nat)]/\d.load b2 0 1=some [c]:=by
 have S:=Si e
 refine ac (n:=6) (rs:=[.tmp 4]) rfl Tryz.e274 rfl rfl rfl (lbt rfl) ?_
 simp only [BS,Nat.reduceLT]
 refine ag (bN (by exact bU)) S ?_;clear S;intro h b1 S a
 simp only [BS,Nat.reduceLT,Nat.reduceEqDiff,if_false]
 refine ag (bN (by assumption)) S ?_;clear S;intro h b2 S b
 simp only [BS,LB,ab,Nat.reduceLT,Nat.reduceEqDiff]
 exact⟨S.gr,b1,b2,rfl,a,b,S.ld m1 rfl,S.ld m0 rfl⟩
theorem marked_it {hq h0:Hp} (u:hq.t.Sized hq.n) (e:h0.t.Sized h0.n) (y:dT hq h0) (q:hq.n<=h0.n) {x:Nat} {N:Nat} (H:N<=1000) {b1 b2:Nat} {g:FuncId} {post:Array Value} {f:Nat->Bool} (hf:HoldA zM hq x g post.toList N f)
 (z:h0.load b1 0 1=some [.int .i64 (N:Nat)]) (A:h0.load b2 0 1=some [.func (.func g) #[] post]):
 kU zM 280 [] [ptrTo b1,ptrTo b2] h0 (fun c=>c=b1\/c=b2\/(c<hq.n/\c≠x)) (((zO N).filter f).map fun(v:Nat)=>[.int .i64 (v:Nat)]):=by
 intro B J Z C Y h F s b
 have r:=s.load e z (.inl rfl)
 refine enter (n:=19) (rs:=[]) rfl Tryz.e280 rfl rfl rfl (lbt rfl) ?_
 simp only [BS,LB,Nat.reduceLT,F0k,r]
 refine aQ (fun(i:Nat) d h=>i<=N/\ ∃F,ItS h0 (fun c=>c=b1\/c=b2\/(c<hq.n/\c≠x)) h F/\J ((zO i).filter f).length h F/\d 0=.func (.yield B) #[] #[]/\d 1=ptrTo b1/\d 2=ptrTo b2/\d 5=.int .i64 (N:Nat)/\d 6=.int .i64 i) (fun i=>N-i) ?_ 0 _ _ ?_
 . clear r s b F h
   intro i t d h ⟨hi,F,s,b,r0,r1,r2,r5,r6⟩
   have w:an .i64 ((i:Int)+1)=((i+1:Nat):Int):=by rw [wrap64]<;>omega
   by_cases hlt:i<N
   . have D:=s.load e A (.inr (.inl rfl))
     simp only [BS,LB,Nat.reduceLT,Nat.reduceEqDiff,F0k,r2,r5,r6,aA,hlt,D]
     refine am (hf _ s.ok (fun c k l=>(s.data c (Xb k q) (.inr (.inr ⟨k,l⟩))).trans (y c k)) (Xd q s.n) i hlt) ?_
     intro I j
     cases m:f i with
     | true=>
       have l:(((zO N).filter f).map fun(v:Nat)=>[Value.int .i64 (v:Nat)])[((zO i).filter f).length]? =some [.int .i64 (i:Nat)]:=by
        rw [Xi,rf m _ hlt];rfl
       have o:((zO (i+1)).filter f).length=((zO i).filter f).length+1:=by rw [iY,if_pos m];simp
       simp only [BS,LB,Nat.reduceLT,Nat.reduceEqDiff,r0]
       refine cH Y (s.gr j) (Y.gr _ _ _ _ b j) (i:=((zO i).filter f).length) l ?_ ?_ ?_
       . intro p E a G _ _
         simp only [BS,LB,Nat.reduceLT,Nat.reduceEqDiff,r6,w]
         exact t (i+1) _ _ (by omega) ⟨by omega,E,G,by rw [o];exact a,by simp [aa,r0],by simp [aa,r1,ae],by simp [aa,r2,ae],by simp [aa,r5],by simp [aa]⟩
       . intro p a _
         simp only [BS,LB,Nat.reduceLT,Nat.reduceEqDiff]
         exact fm rfl ⟨rfl,.inr (.inl ⟨_,rfl,a⟩)⟩
       . intro v p a
         exact absurd a (C v p)
     | false=>
       have o:(zO (i+1)).filter f=(zO i).filter f:=by rw [iY,if_neg (by rw [m];decide)];simp
       simp only [BS,LB,Nat.reduceLT,Nat.reduceEqDiff,r6,w]
       exact t (i+1) _ _ (by omega) ⟨by omega,F,s.gr j,by rw [o];exact Y.gr _ _ _ _ b j,by simp [aa,r0],by simp [aa,r1,ae],by simp [aa,r2,ae],by simp [aa,r5],by simp [aa]⟩
   . simp only [BS,LB,Nat.reduceLT,r5,r6,aA,hlt]
     have:i=N:=by omega
     subst this
     exact bT (cG ⟨rfl,_,rfl,rfl,.inl ⟨_,F,rfl,by simpa using b⟩⟩)
 . exact⟨Xg _,F,s,b,by simp [aa,bV],by simp [aa,bV,ae],by simp [aa,bV,ae],by simp [aa],by simp [aa]⟩
def dp(n:Nat)(f:Nat->Bool):List Value:=(zO n).map fun j=>.bool (f j)
theorem qr{n:Nat}{f:Nat->Bool}:(dp n f).length=n:=by simp [dp]
theorem bolC_at{n j:Nat}{f:Nat->Bool}(h:j<n):(dp n f)[j]? =some (.bool (f j)):=jj (F:=fun j=>Value.bool (f j)) h
theorem zw{n j:Nat}{f:Nat->Bool}:(dp n f).set j (.bool true)=dp n (fun u=>decide (u=j)||f u):=by
 have:=iT (N:=n) (k:=j) (F:=fun j=>Value.bool (f j)) (F':=fun u=>Value.bool (decide (u=j)||f u)) (fun i _ a=>by simp [a])
 unfold dp
 rw [<-this];simp
theorem jQ{n:Nat}{f g:Nat->Bool}(h: ∀j,j<n->f j=g j):dp n f=dp n g:=by
 unfold dp
 refine List.map_congr_left fun j a=>?_
 rw [h j (List.mem_range.1 a)]
theorem putB_ok{h0:Hp}(E:h0.t.Sized h0.n){d n:Nat}{f:Nat->Bool}(R:Row h0 d (dp n f) 1){g:FuncId}{post:Array Value}{D:Nat->Prop}{xs:List Nat}(M:kU zM g [] post.toList h0 D (xs.map fun(v:Nat)=>[.int .i64 (v:Nat)]))(G: ¬D d)(B: ∀x∈xs,x<n)(hl:xs.length<=1000):
 Ret zM 273 [.slice (some ⟨d,0,none⟩) n n,.func (.func g) #[] post,.bool true] h0 fun r t=>Mo (· =d) h0 t/\r=.slice (some ⟨d,0,none⟩) n n/\Row t d (dp n (fun u=>decide (u∈xs)||f u)) 1:=by
 have S:=St.init1 E (o:=.row (dp n f) 1) R
 have zl:=R.lt E
 refine ac (n:=15) (rs:=[.tmp 6]) rfl Tryz.e273 rfl rfl rfl (lbt rfl) ?_
 simp only [BS,Nat.reduceLT]
 refine ag (bN (by exact bj)) S ?_;clear S;intro h m S H
 simp only [BS,Nat.reduceLT,Nat.reduceEqDiff,if_false]
 refine ag (bN (by exact oz)) S ?_;clear S;intro h w S I
 simp only [BS,Nat.reduceLT,Nat.reduceEqDiff,if_false]
 have N:dp n f=dp n (fun u=>decide (u∈xs.take 0)||f u):=jQ fun j _=>by simp
 refine fT S (g:=g) (a:=#[]) (b:=post) (by simp [ca,aa,ae]) rfl rfl ?_
 intro J A z p O P g2
 obtain⟨X,K,p⟩: ∃X:ez,X=_/\St (· =d) h0 J [(z,.loop X),(A,.dfr),(w,.row [.bool true] 1),(m,.row [.slice (some ⟨d,0,none⟩) n n] 1),(d,.row (dp n f) 1)] []:=⟨_,rfl,p⟩
 have Q:Yld zM z (fun k t F=>St (· =d) h0 t [(z,.loop X),(A,.dfr),(w,.row [.bool true] 1),(m,.row [.slice (some ⟨d,0,none⟩) n n] 1),(d,.row (dp n (fun u=>decide (u∈xs.take k)||f u)) 1)] []/\k<=xs.length/\F=[z,A,w,m,d]) (fun _ _=>False) (xs.map fun(v:Nat)=>[.int .i64 (v:Nat)]):=by
  refine⟨?_,?_,fun _ _ h=>h.elim,?_⟩
  . rintro i h F ⟨S,_,rfl⟩;exact⟨S.ok,fun b l=>S.key_lt (by simpa [keys]using l)⟩
  . rintro i h F t ⟨S,a,rfl⟩ V;exact⟨S.call V,a,rfl⟩
  . rintro i x hR F C ⟨S,a,rfl⟩
    have q:i<xs.length:=by
     have:=(List.getElem?_eq_some_iff.1 C).1
     simpa using this
    rw [Xi,Xc q]at C
    cases C
    have s:=B _ (Xf q)
    have W:dp n (fun u=>decide (u∈xs.take (i+1))||f u)=(dp n (fun u=>decide (u∈xs.take i)||f u)).set xs[i] (.bool true):=by
     rw [zw]
     refine jQ fun j _=>?_
     rw [Xe q]
     simp only [XC,XH]
     by_cases Y:j=xs[i]<;>by_cases Z:j∈xs.take i<;>simp [Y,Z]
    rw [W]
    generalize xs[i]=x at s
    subst K
    refine fS (S.get m0) (by rw [Tryz.e273];rfl) rfl ?_
    have S0:=S
    replace S:=S.base
    simp only [BS,LB,Nat.reduceLT,Nat.reduceEqDiff]
    refine eX S (i:=0) rfl rfl rfl rfl rfl ?_
    clear S;intro h S
    simp only [LC]at S
    simp only [BS,LB,Nat.reduceLT,Nat.reduceEqDiff,F0l,s,S.ld (b:=m) (o:=0) m3 rfl,S.ld (b:=w) (o:=0) m2 rfl]
    refine ay (az S (i:=4) rfl Tryz.t4.2.2.1 oz (by rw [qr];exact s) ono) ?_
    clear S;rintro h ⟨S,_⟩
    simp only [LC]at S
    simp only [BS]
    refine dE S (i:=0) rfl ?_
    clear S;intro h S
    simp only [LC]at S
    refine .inl ⟨rfl,_,⟨S0.rebase S,by omega,rfl⟩,?_,fun c hc=>.inl hc⟩
    have:=S.fr
    simp only [keys,XZ,X5,XF,Xz]at this
    exact this
 refine eB (M z _ _ (fun _ _ h=>h) Q J [z,A,w,m,d] ?_ ⟨by rw [<-N];exact p,Xg _,rfl⟩) fun o rc t y=>iI y ?_
 . have kn:=S.fr.n
   refine⟨p.ok,p.fr.n,fun b l hd=>p.fr.get b l (fun e=>G (e▸hd)),fun b l h=>?_,fun b l=>p.key_lt (by simpa [keys]using l)⟩
   simp only [XJ,Xt,or_false]at l
   rcases l with rfl|rfl|rfl|rfl|rfl
   . omega
   . omega
   . omega
   . omega
   . exact G h.2
 . rintro F ⟨T,_,rfl⟩
   rw [XB,Xn]at T
   subst K
   refine⟨_,T.get m0,XT,?_⟩
   replace T:=T.dead
   have S:=T
   show Run _ _ _ _ _ _ _ _
   simp only [BS,LB,Nat.reduceLT,Nat.reduceEqDiff,F0l,S.ld (b:=m) (o:=0) m2 rfl]
   refine dC (fi [A] _ (L:=[(w,_),(m,_),(d,_)]) T.base fun h4 S4=>?_)
   refine⟨rfl,(kM (by decide)).2 (dV.2 ?_)⟩
   have U:=T.rebase S4
   exact⟨U.fr,rfl,U.row m2⟩
theorem anyT_ok {h0:Hp} (M:h0.t.Sized h0.n) {d:Gra} (l:Good d) {N y b:Nat} {z:Value} {xs:List Nat} (A:aV h0 N (ptrTo y) d) (G:b<d.nodes) (B:av h0 1 ce z xs) (m:xs=[b]):
 Ret zM 261 [ptrTo y,z] h0 fun r H=>Gr h0 H/\ ∃f,r=.slice (some ⟨f,0,none⟩) d.arcs.length d.arcs.length/\Row H f (dp d.arcs.length (jw d b)) 1/\h0.n<=f:=by
 have S:=Si M
 have I:=l.many
 have fL:=B.fl
 have hl:xs.length=1:=by rw [m];rfl
 refine ac (n:=32) (rs:=[.tmp 4]) rfl Tryz.e261 rfl rfl rfl (lbt rfl) ?_
 simp only [BS,LB,Nat.reduceLT,Nat.reduceEqDiff,FJ]
 refine am (kZ S.ok A) ?_
 intro h1 O;replace S:=S.call O
 simp only [BS,LB,Nat.reduceLT,Nat.reduceEqDiff]
 have C:=S.gr
 have p:=S.ok
 clear S
 have S:=Si p
 rename Hp=>hA
 refine ag (jF (by exact Tryz.t74.1) (by exact Tryz.e4E) (by omega) (by omega)) S ?_;clear S;intro h f S q
 have P:aT [Value.bool false] d.arcs.length=dp d.arcs.length (fun a=>decide (0=1)&&jw d b a):=by
  rw [lJ]
  unfold dp
  simp [XS]
 rw [Xh,P]at S
 simp only [BS,LB,Nat.reduceLT,Nat.reduceEqDiff,FJ,Xh,B.lenq]
 refine aQ (fun(i:Nat) k h=>i<=1/\St NoM hA h [(f,.row (dp d.arcs.length (fun a=>decide (i=1)&&jw d b a)) 1)] []/\k 0=ptrTo y/\k 5=.slice (some ⟨f,0,none⟩) d.arcs.length d.arcs.length/\k 13=z/\k 14=.int .i64 (xs.length:Nat)/\k 15=.int .i64 i) (fun i=>1-i) ?_ 0 _ _ ?_
 . clear S
   intro i Q k h ⟨hi,S,r0,r5,r13,r14,r15⟩
   have w:an .i64 ((i:Int)+1)=((i+1:Nat):Int):=by rw [wrap64]<;>omega
   have D:=C.trans S.gr
   by_cases hlt:i<xs.length
   . have J:i=0:=by omega
     obtain⟨c,o,R,s⟩:=(B.gr D).ix (kd:=.i64) dG hlt
     have T:xs[i]=b:=by subst m;subst J;rfl
     rw [T]at s
     replace s:h.load c o 1=some [.int .i64 (b:Nat)]:=s
     simp only [BS,LB,Nat.reduceLT,Nat.reduceEqDiff,FJ,r0,r13,r14,r15,aA,hlt,R,s]
     refine am (AH S.ok (A.gr D) G) ?_
     intro h2 U;replace S:=S.call U
     have hS:=S.gr
     have E:=(S.row (b:=f) m0).lt S.ok
     simp only [BS,LB,Nat.reduceLT,Nat.reduceEqDiff,FJ,r0,r5]
     refine step_ret (tells_ok p S.ok S.gr (x:=f) q E l (A.gr C) G) ?_
     rintro v h3 ⟨K,V,W,rfl,n2,n5,hf⟩
     replace S:=S.call K
     have F:=S.ok
     simp only [BS,LB,Nat.reduceLT,Nat.reduceEqDiff]
     refine step_ret (marked_ok S.ok (n:=d.arcs.length) gY) ?_
     rintro v h4 ⟨t,X,Y,rfl,n1,n3,Z,y3⟩
     have it:=marked_it F t.ok t.keep t.n (x:=f) (by omega) (g:=281) (post:=#[ptrTo V,ptrTo W]) hf Z y3
     have kg:=K.n
     replace S:=S.call t
     simp only [BS,LB,Nat.reduceLT,Nat.reduceEqDiff]
     refine step_ret (putB_ok S.ok (S.row (b:=f) m0) (g:=280) (post:=#[ptrTo X,ptrTo Y]) it (fun h=>?_) (fun x hx=>List.mem_range.1 (List.mem_filter.1 hx).1) (Xd pY (by omega))) ?_
     . rcases h with h|h|h
       . omega
       . omega
       . exact h.2 rfl
     . rintro v h5 ⟨f5,rfl,R5⟩
       have L:=S.call1 (i:=0) (o':=.row _ 1) rfl f5 R5
       simp only [XG]at L
       simp only [BS,LB,Nat.reduceLT,Nat.reduceEqDiff,r15,w]
       refine Q (i+1) _ _ (by omega) ⟨by omega,?_,by simp [aa,r0,ae],by simp [aa],by simp [aa,r13],by simp [aa,r14],by simp [aa]⟩
       have e:dp d.arcs.length (fun a=>decide (i+1=1)&&jw d b a)=dp d.arcs.length (fun u=>decide (u∈(zO d.arcs.length).filter (jw d b))||(decide (i=1)&&jw d b u)):=jQ fun j hj=>by
        subst J
        simp [List.mem_filter,hj]
       rw [e]
       exact L
   . have i1:i=1:=by omega
     simp only [BS,LB,ab,Nat.reduceLT,Nat.reduceEqDiff,r5,r14,r15,aA,hlt]
     refine⟨D,f,rfl,?_,by have:=C.n;omega⟩
     have e:dp d.arcs.length (jw d b)=dp d.arcs.length (fun a=>decide (i=1)&&jw d b a):=jQ fun j _=>by rw [decide_eq_true i1,XY]
     rw [e]
     exact S.row m0
 . exact⟨Xg _,S,by simp [aa,bV,ae],by simp [aa],by simp [aa],by simp [aa],by simp [aa]⟩
theorem arcsT_ok{h0:Hp}(j:h0.t.Sized h0.n){a:Gra}(d:Good a){k f b:Nat}(l:aV h0 k (ptrTo f) a)(m:b<a.nodes):
 Ret zM 234 [ptrTo f,.int .i64 (b:Nat)] h0 fun r g=>Gr h0 g/\ ∃c,r=.slice (some ⟨c,0,none⟩) a.arcs.length a.arcs.length/\Row g c (dp a.arcs.length (jw a b)) 1/\h0.n<=c:=by
 have S:=Si j
 refine ac (n:=9) (rs:=[.tmp 4]) rfl Tryz.e234 rfl rfl rfl (lbt rfl) ?_
 simp only [BS,LB,Nat.reduceLT,Nat.reduceEqDiff]
 refine ag (bI (by exact Tryz.t33.1) (by exact Xp) (by decide) (by rfl)) S ?_;clear S;intro h e S i;simp only [LC,aT,bA,ah,Nat.reduceMul,Nat.reduceAdd,Xr,Xm,Xq,Xv]at S
 simp only [BS,LB,Nat.reduceLT,Nat.reduceEqDiff]
 have p:av h 1 ce (.slice (some ⟨e,0,none⟩) 1 1) [b]:=.inr ⟨e,0,none,1,rfl,Xl _,S.lds (b:=e) (o:=0) (n:=1*1) m0 (lbt rfl)⟩
 have s:=S.fr.n
 refine step_ret (anyT_ok S.ok d (l.gr S.gr) m p rfl) ?_
 rintro r t ⟨q,c,rfl,R,u⟩
 replace S:=S.call q
 simp only [BS,LB,ab,Nat.reduceLT,Nat.reduceEqDiff]
 exact⟨S.gr,c,rfl,R,by omega⟩
end Go.Ab
end
section
namespace Go.Ab
open Go.Proofs
set_option maxRecDepth 10000
def Tryz.F0m:=aj t1<|aj t2<|aj t3<|aj t4<|aj t5<|aj t6<|aj Z3<|aj Z0<|aj t32<|aj t189<|aj Z1<|t196
def Tryz.F0Y:=aj t1<|aj t3<|aj t4<|aj Z0<|aj t32<|aj t33<|aj t77<|aj Z6<|aj t189<|Z1
def Tryz.F0Z:=aj t1<|aj t3<|aj t4<|t74
def Tryz.FK:=aj t1<|aj t2<|aj t3<|aj t4<|aj t5<|aj t6<|aj Z3<|aj Z4<|aj Z0<|aj t32<|aj t33<|aj t74<|aj t77<|aj Z6<|aj t189<|aj Z1<|aj t196<|t315
def Own(B:Nat->Prop)(a h:Hp)(F:List Nat):Prop:=a.n<=h.n/\ ∀b,B b->b<a.n/\b∉F/\h.get b=a.get b
theorem Own.gr{B:Nat->Prop}{c h d:Hp}{F:List Nat}(o:Own B c h F)(g:Gr h d):Own B c d F:=
 ⟨Xd o.1 g.n,fun b a=>⟨(o.2 b a).1,(o.2 b a).2.1,(g.get b (Xb (o.2 b a).1 o.1)).trans (o.2 b a).2.2⟩⟩
theorem Own.mo{B:Nat->Prop}{a h c:Hp}{F F':List Nat}(o:Own B a h F)(m:Mo (· ∈F) h c)(f: ∀b∈F',b∈F\/h.n<=b):Own B a c F':=
 ⟨Xd o.1 m.n,fun b g=>by
  obtain⟨d,e,i⟩:=o.2 b g
  have hlt:=Xb d o.1
  exact⟨d,fun j=>(f b j).elim e (fun h=>by omega),(m.get b hlt e).trans i⟩⟩
section
variable{γ:Gra}{nb mb bp k:Nat}{p:Value}{m:List Int}{c:Nat->Nat}
theorem won_ok{h0 e:Hp}{D:Nat->Prop}(u:h0.t.Sized h0.n){K:Nat}{J:Nat->Hp->List Nat->Prop}{Z:Out->Hp->Prop}{xs:List (List Value)}(x:Good γ)(N: ∀v h,¬Z (.pan v) h)(Y:Yld zM K J Z xs){B:Nat->Prop}{b b3:Nat}(y:B b)(O:e.load b 0 1=some [.func (.yield K) #[] #[]])(P:D b3)(Q:h0.load b3 0 1=some [ptrTo bp])(j: ∀h F,ItS h0 D h F->aV h nb (ptrTo bp) γ)
 {g:FuncId} {post:Array Value} {f:Nat->Bool} (z: ∀h F,ItS h0 D h F->Own B e h F-> ∀a,a<γ.arcs.length->aK zM g ([.int .i64 (a:Nat)]++post.toList) h (.bool (f a))) {l:Nat} (R: ∀a,a<γ.arcs.length->f a=true->xs[l+((zO a).filter f).length]? =some [.int .i64 (a:Nat)]) {h:Hp} {F:List Nat} (s:ItS h0 D h F) (o:Own B e h F) (q:J l h F):
 Ret zM 230 [.func (.func g) #[] post,ptrTo b3,ptrTo b] h fun v t=>(v=.bool true/\ ∃F',ItS h0 D t F'/\Own B e t F'/\J (l+((zO γ.arcs.length).filter f).length) t F')\/(v=.bool false/\Z (.ret (.bool false)) t):=by
 have L:=x.many
 have S:=s.load u Q P
 refine ac (n:=21) (rs:=[.tmp 4]) rfl Tryz.e230 rfl rfl rfl (lbt rfl) ?_
 simp only [BS,LB,Nat.reduceLT,Nat.reduceEqDiff,F0m,S]
 refine am (kZ s.ok (j _ _ s)) ?_
 intro V A
 simp only [BS]
 refine aQ (fun(i:Nat) r h=>i<=γ.arcs.length/\ ∃F,ItS h0 D h F/\Own B e h F/\J (l+((zO i).filter f).length) h F/\r 0=.func (.func g) #[] post/\r 2=ptrTo b/\r 7=.int .i64 (γ.arcs.length:Nat)/\r 8=.int .i64 i) (fun i=>γ.arcs.length-i) ?_ 0 _ _ ?_
 . intro i M r h ⟨hi,F,s,o,q,r0,r2,r7,r8⟩
   have w:an .i64 ((i:Int)+1)=((i+1:Nat):Int):=by rw [wrap64]<;>omega
   by_cases hlt:i<γ.arcs.length
   . simp only [BS,LB,Nat.reduceLT,Nat.reduceEqDiff,r0,r7,r8,aA,hlt]
     refine am (z _ _ s o i hlt) ?_
     intro W d
     have C:=kB O ((o.gr d).2 b y).2.2
     cases E:f i with
     | true=>
       have G:((zO (i+1)).filter f).length=((zO i).filter f).length+1:=by rw [iY,if_pos E];simp
       simp only [BS,LB,Nat.reduceLT,Nat.reduceEqDiff,F0m,r2,C]
       refine cH Y (s.gr d) (Y.gr _ _ _ _ q d) (i:=l+((zO i).filter f).length) (R i hlt E) ?_ ?_ ?_
       . intro H T a U m3 I
         simp only [BS,LB,Nat.reduceLT,Nat.reduceEqDiff,r8,w]
         exact M (i+1) _ _ (by omega) ⟨by omega,T,U,(o.gr d).mo m3 I,by rw [G];exact a,by simp [aa,r0],by simp [aa,r2,ae],by simp [aa,r7],by simp [aa]⟩
       . intro H a _
         simp only [BS,LB,ab,Nat.reduceLT,Nat.reduceEqDiff]
         exact .inr a
       . intro v H a
         exact absurd a (N v H)
     | false=>
       have G:(zO (i+1)).filter f=(zO i).filter f:=by rw [iY,if_neg (by rw [E];decide)];simp
       simp only [BS,LB,Nat.reduceLT,Nat.reduceEqDiff,r8,w]
       exact M (i+1) _ _ (by omega) ⟨by omega,F,s.gr d,o.gr d,by rw [G];exact Y.gr _ _ _ _ q d,by simp [aa,r0],by simp [aa,r2,ae],by simp [aa,r7],by simp [aa]⟩
   . have:i=γ.arcs.length:=by omega
     subst this
     simp only [BS,LB,ab,Nat.reduceLT,Nat.reduceEqDiff,r7,r8,aA,hlt]
     exact .inl ⟨F,s,o,q⟩
 . exact⟨Xg _,F,s.gr A,o.gr A,Y.gr _ _ _ _ q A,by simp [aa,bV],by simp [aa,bV,ae],by simp [aa],by simp [aa]⟩
theorem worth_ok{h0:Hp}(f:h0.t.Sized h0.n)(fp:Fl p):Ret zM 169 [ptrTo bp,p,.int .i64 (k:Nat)] h0 fun v e=>Gr h0 e/\ ∃b3 b4 b5,v=.func (.func 229) #[] #[ptrTo b3,ptrTo b4,ptrTo b5]/\h0.n<=b3/\h0.n<=b4/\h0.n<=b5/\e.load b3 0 1=some [ptrTo bp]/\e.load b4 0 1=some [p]/\e.load b5 0 1=some [.int .i64 (k:Nat)]:=by
 have S:=Si f
 refine ac (n:=8) (rs:=[.tmp 6]) rfl Tryz.e169 rfl rfl rfl (lbt rfl) ?_
 simp only [BS,Nat.reduceLT]
 refine ag (bN (by exact ct)) S ?_;clear S;intro h b3 S a
 simp only [BS,Nat.reduceLT,Nat.reduceEqDiff,if_false]
 refine ag (bN (by assumption)) S ?_;clear S;intro h b4 S b
 simp only [BS,Nat.reduceLT,Nat.reduceEqDiff,if_false]
 refine ag (bN (by exact bU)) S ?_;clear S;intro h b5 S d
 simp only [BS,LB,ab,Nat.reduceLT,Nat.reduceEqDiff]
 exact⟨S.gr,b3,b4,b5,rfl,a,b,d,S.ld m2 rfl,S.ld m1 rfl,S.ld m0 rfl⟩
def insB(γ:Gra)(c:Nat->Nat)(k a:Nat):Bool:=decide (c (γ.arcs.getD a default).s=k/\c (γ.arcs.getD a default).t=k)
theorem worth2_ok{h:Hp}(d:h.t.Sized h.n)(b:Good γ)(e:aV h nb (ptrTo bp) γ)(x:eS h mb p γ.nodes m c){b3 b4 b5:Nat}(f:h.load b3 0 1=some [ptrTo bp])(g:h.load b4 0 1=some [p])(i:h.load b5 0 1=some [.int .i64 (k:Nat)]){a:Nat}(j:a<γ.arcs.length):
 aK zM 231 ([.int .i64 (a:Nat)]++[ptrTo b3,ptrTo b4,ptrTo b5]) h (.bool (insB γ c k a)):=by
 refine ac (n:=11) (rs:=[.tmp 5]) rfl Tryz.e231 rfl rfl rfl (lbt rfl) ?_
 simp only [BS,LB,Nat.reduceLT,Nat.reduceEqDiff,F0Y,f,g,i]
 refine am (inside_ok (N:=0) d b e x j) ?_
 intro o l
 simp only [BS,LB,ab,Nat.reduceLT,Nat.reduceEqDiff]
 exact⟨rfl,l⟩
theorem worth3_ok{h:Hp}(g:h.t.Sized h.n){b d n:Nat}{f:Nat->Bool}(i:h.load b 0 1=some [.slice (some ⟨d,0,none⟩) n n])(R:Row h d (dp n f) 1){a:Nat}(e:a<n):
 aK zM 235 ([.int .i64 (a:Nat)]++[ptrTo b]) h (.bool (f a)):=by
 have S:=Si g
 have j:=R.load1 (bolC_at (f:=f) e)
 have l:(a:Int)<(n:Int):=by omega
 refine ac (n:=14) (rs:=[.tmp 3]) rfl Tryz.e235 rfl rfl rfl (lbt rfl) ?_
 simp only [BS,LB,ab,Nat.reduceLT,Nat.reduceEqDiff,F0Z,i,l,e,j]
 exact S.gr
theorem flat_at{α a:Type}{f:α->List a}{l:List α}{j q:Nat}{x:a}(b:j<l.length)(h:(f l[j])[q]? =some x):(l.flatMap f)[((l.take j).flatMap f).length+q]? =some x:=by
 have e:l=l.take j++l[j]::l.drop (j+1):=by rw [<-XM b,List.take_append_drop]
 conv=>lhs;rw [e]
 rw [X4,List.flatMap_cons,Xu (by simp)]
 have d:=(List.getElem?_eq_some_iff.1 h).1
 have g:(Xx j l++l[j]::Xy (j+1) l).take j=l.take j:=by rw [<-e]
 rw [g,XQ,Xk d]
 exact h
noncomputable def oR(γ:Gra)(b:Nat):List Nat:=(zO γ.arcs.length).filter (jw γ b)
noncomputable def dY(γ:Gra)(c:Nat->Nat)(k:Nat):List Nat:=(zO γ.arcs.length).filter (insB γ c k)++((zO γ.nodes).filter (borB γ c k)).flatMap (oR γ)
theorem worth1_it {hq h0:Hp} (I:hq.t.Sized hq.n) (t:h0.t.Sized h0.n) (kq:dT hq h0) (nq:hq.n<=h0.n) (y:Good γ) (hn:aV hq nb (ptrTo bp) γ) (x:eS hq mb p γ.nodes m c) {b3 b4 b5:Nat} (K:h0.load b3 0 1=some [ptrTo bp]) (e4:h0.load b4 0 1=some [p]) (e5:h0.load b5 0 1=some [.int .i64 (k:Nat)]):
 kU zM 229 [] [ptrTo b3,ptrTo b4,ptrTo b5] h0 (fun c=>c=b3\/c=b4\/c=b5\/c<hq.n) ((dY γ c k).map fun(a:Nat)=>[.int .i64 (a:Nat)]):=by
 intro lb J Z hz Y h F s M
 have n2:=y.n2
 have fp:Fl p:=by obtain⟨b,_,rfl,_⟩:=x.at0;exact ct
 have kN: ∀h F,ItS h0 (fun c=>c=b3\/c=b4\/c=b5\/c<hq.n) h F->dT hq h:=fun h F s=>s.keep kq nq (fun c W=>.inr (.inr (.inr W)))
 have u: ∀h F,ItS h0 (fun c=>c=b3\/c=b4\/c=b5\/c<hq.n) h F->aV h nb (ptrTo bp) γ:=fun h F s=>hn.keep I (kN h F s)
 have A: ∀h F,ItS h0 (fun c=>c=b3\/c=b4\/c=b5\/c<hq.n) h F->eS h mb p γ.nodes m c:=fun h F s=>x.keep I (kN h F s)
 have X: ∀a,a<γ.arcs.length->insB γ c k a=true->((dY γ c k).map fun(a:Nat)=>[Value.int .i64 (a:Nat)])[0+((zO a).filter (insB γ c k)).length]? =some [.int .i64 (a:Nat)]:=fun a D q=>by
  have Q:=rf q _ D
  unfold dY
  rw [Xm,Xi,Xk (List.getElem?_eq_some_iff.1 Q).1,Q];rfl
 have S:=Si s.ok
 refine enter (n:=31) (rs:=[]) rfl Tryz.e229 rfl rfl rfl (lbt rfl) ?_
 simp only [BS,LB,Nat.reduceLT]
 refine ag (bN (by exact gY)) S ?_;clear S;intro h l S ad
 have s1:=s.gr S.gr
 have j1:=Y.gr _ _ _ _ M S.gr
 have zy:=(S.row (b:=l) m0).lt S.ok
 have ly:=S.ld (b:=l) (o:=0) m0 rfl
 have o1:Own (· =l) _ _ F:=⟨Xl _,fun b q=>⟨by subst q;exact zy,fun C=>by subst q;have:=s.lt _ C;omega,rfl⟩⟩
 simp only [BS,LB,Nat.reduceLT,Nat.reduceEqDiff]
 refine step_ret (won_ok t y hz Y (B:=(· =l)) rfl ly (.inl rfl) K u (g:=231) (post:=#[ptrTo b3,ptrTo b4,ptrTo b5]) (f:=insB γ c k) (fun h F s _ a D=>worth2_ok s.ok y (u _ _ s) (A _ _ s) (s.load t K (.inl rfl)) (s.load t e4 (.inr (.inl rfl))) (s.load t e5 (.inr (.inr (.inl rfl)))) D) X s1 o1 j1) ?_
 rintro v h2 (⟨rfl,F2,z,o2,j2⟩|⟨rfl,z2⟩)
 . simp only [BS,LB,Nat.reduceLT,Nat.reduceEqDiff,FK,z.load t K (.inl rfl),z.load t e4 (.inr (.inl rfl)),z.load t e5 (.inr (.inr (.inl rfl)))]
   refine step_ret (border_ok z.ok y (u _ _ z) (A _ _ z) (k:=k)) ?_
   rintro G N ⟨gB,R,nB⟩
   have sA:=z.gr gB
   have jA:=Y.gr _ _ _ _ j2 gB
   have T:=o2.gr gB
   have lB:N.load l 0 1=some [.func (.yield lb) #[] #[]]:=kB ly (T.2 l rfl).2.2
   have af:l<N.n:=Xb zy T.1
   have oB:Own (fun c=>c=l\/ar G c) N N F2:=⟨Xl _,fun b q=>⟨q.elim (fun e=>by subst e;exact af) (fun h=>R.lt sA.ok h),fun C=>q.elim (fun e=>(T.2 b e).2.1 C) (fun h=>by have:=nB b h;have:=z.lt b C;omega),rfl⟩⟩
   generalize U:(zO γ.nodes).filter (borB γ c k)=L at R
   have ai: ∀b∈L,b<γ.nodes:=fun b q=>by rw [<-U]at q;exact List.mem_range.1 (List.mem_filter.1 q).1
   have al:L.length<=γ.nodes:=by rw [<-U];exact pY
   simp only [BS,LB,Nat.reduceLT,Nat.reduceEqDiff,FK,R.lenq]
   refine aQ (fun(j:Nat) H h=>j<=L.length/\ ∃F,ItS h0 (fun c=>c=b3\/c=b4\/c=b5\/c<hq.n) h F/\Own (fun c=>c=l\/ar G c) N h F/\J (((zO γ.arcs.length).filter (insB γ c k)).length+((L.take j).flatMap (oR γ)).length) h F/\H 1=ptrTo b3/\H 5=.func (.func 230) #[] #[ptrTo b3,ptrTo l]/\H 17=G/\H 18=.int .i64 (L.length:Nat)/\H 19=.int .i64 j) (fun j=>L.length-j) ?_ 0 _ _ ?_
   . clear S s1 j1 o1 z j2 o2 sA jA T oB
     intro j ih H h ⟨hj',F,s,o,M,r1,r5,r17,r18,r19⟩
     have w:an .i64 ((j:Int)+1)=((j+1:Nat):Int):=by rw [wrap64]<;>omega
     by_cases hlt:j<L.length
     . have q:=ai _ (Xf hlt)
       have sl:av h 1 ce G L:=sl_get R (fun c W=>(o.2 c (.inr W)).2.2)
       obtain⟨d,oo,x0,V⟩:=sl.ix (kd:=.i64) dG hlt
       have O: ∀a,a<γ.arcs.length->jw γ L[j] a=true->((dY γ c k).map fun(a:Nat)=>[Value.int .i64 (a:Nat)])[((zO γ.arcs.length).filter (insB γ c k)).length+((L.take j).flatMap (oR γ)).length+((zO a).filter (jw γ L[j])).length]? =some [.int .i64 (a:Nat)]:=fun a D q=>by
        have Q:(oR γ L[j])[((zO a).filter (jw γ L[j])).length]? =some a:=rf q _ D
        unfold dY
        rw [U,Xi,Nat.add_assoc,Xu (by omega),XQ,flat_at hlt Q];rfl
       have tk:((L.take (j+1)).flatMap (oR γ)).length=((L.take j).flatMap (oR γ)).length+((zO γ.arcs.length).filter (jw γ L[j])).length:=by
        rw [Xe hlt,X4,Xo]
        simp [oR]
       generalize L[j]=b at q V O tk
       replace V:h.load d oo 1=some [.int .i64 (b:Nat)]:=V
       simp only [BS,LB,Nat.reduceLT,Nat.reduceEqDiff,FK,r1,r17,r18,r19,aA,hlt,x0,V,s.load t K (.inl rfl)]
       refine step_ret (arcsT_ok s.ok y (u _ _ s) q) ?_
       rintro r h4 ⟨g4,bl,rfl,R4,nl⟩
       have S:=Si g4.ok
       simp only [BS,FK]
       refine ag ax S ?_;clear S;intro h P S ak
       simp only [BS,LB,Nat.reduceLT,Nat.reduceEqDiff]
       refine ay (az S (i:=0) rfl Tryz.t74.2.2.1 bj (Xj (lbt rfl)) ono) ?_
       clear S;rintro h5 ⟨S,_⟩
       simp only [LC]at S
       have g5:=g4.trans S.gr
       have s5:=s.gr g5
       have j5:=Y.gr _ _ _ _ M g5
       have E:=o.gr g5
       have R8:=S.row (b:=P) m0
       have Rl:=R4.gr S.gr
       have k4:=g4.n
       have oC:Own (fun c=>(c=l\/ar G c)\/c=P\/c=bl) h5 h5 F:=⟨Xl _,fun b q=>by
        rcases q with q|rfl|rfl
        . exact⟨Xb (E.2 b q).1 E.1,(E.2 b q).2.1,rfl⟩
        . exact⟨R8.lt S.ok,fun C=>by have:=s.lt _ C;omega,rfl⟩
        . exact⟨Rl.lt S.ok,fun C=>by have:=s.lt _ C;omega,rfl⟩⟩
       have l5:h5.load l 0 1=some [.func (.yield lb) #[] #[]]:=kB lB (E.2 l (.inl rfl)).2.2
       simp only [BS,LB,Nat.reduceLT,Nat.reduceEqDiff,r5]
       refine step_ret (won_ok t y hz Y (B:=fun c=>(c=l\/ar G c)\/c=P\/c=bl) (.inl (.inl rfl)) l5 (.inl rfl) K u (g:=235) (post:=#[ptrTo P]) (f:=jw γ b) (fun h F s o a D=>worth3_ok s.ok (kB (R8.load1 (o:=0) rfl) (o.2 P (.inr (.inl rfl))).2.2) (Row.of_get (o.2 bl (.inr (.inr rfl))).2.2 Rl) D) O s5 oC j5) ?_
       rintro v h6 (⟨rfl,F6,s6,o6,j6⟩|⟨rfl,z6⟩)
       . simp only [BS,LB,Nat.reduceLT,Nat.reduceEqDiff,r19,w]
         refine ih (j+1) _ _ (by omega) ⟨by omega,F6,s6,⟨Xd E.1 o6.1,fun b q=>⟨(E.2 b q).1,(o6.2 b (.inl q)).2.1,(o6.2 b (.inl q)).2.2.trans (E.2 b q).2.2⟩⟩,by rw [tk,<-Nat.add_assoc];exact j6,by simp [aa,r1,ae],by simp [aa,r5],by simp [aa,r17],by simp [aa,r18],by simp [aa]⟩
       . simp only [BS,LB,Nat.reduceLT,Nat.reduceEqDiff]
         exact fm rfl ⟨rfl,.inr (.inl ⟨_,rfl,z6⟩)⟩
     . have:j=L.length:=by omega
       subst this
       simp only [BS,LB,Nat.reduceLT,r18,r19,aA,hlt]
       refine bT (cG ⟨rfl,_,rfl,rfl,.inl ⟨_,F,rfl,?_⟩⟩)
       rw [Xn]at M
       rw [XB]
       unfold dY
       rw [Xo,U]
       exact M
   . exact⟨Xg _,F2,sA,oB,by simpa using jA,by simp [aa,bV,ae],by simp [aa,ae],by simp [aa],by simp [aa],by simp [aa]⟩
 . simp only [BS,LB,Nat.reduceLT,Nat.reduceEqDiff]
   exact fm rfl ⟨rfl,.inr (.inl ⟨_,rfl,z2⟩)⟩
end
end Go.Ab

end
section
namespace Go.Ab
open Go.Proofs
set_option maxRecDepth 10000
def Tryz.Fp:=aj t1<|aj t2<|aj t3<|aj t4<|aj t5<|aj t6<|aj Z3<|aj Z4<|aj t9<|aj t10<|aj t11<|aj t22<|aj t23<|aj t24<|aj t26<|aj r26<|aj Z0<|aj t32<|aj t33<|aj t77<|aj t78<|aj Z6<|aj t189<|aj Z1<|aj t250<|Z10
def OkB(d:Gra)(c:Nat->Nat)(long k i:Nat)(B:Nat->Nat):Prop:= ∀b a,a<d.arcs.length->(fJ B long b a=true↔(b<k/\a∈dY d c b)\/(b=k/\a∈(dY d c k).take i))
theorem OkB.zero{b:Gra}{c:Nat->Nat}{long:Nat}:OkB b c long 0 0 (fun _=>0):=fun d a _=>by simp [fJ]
theorem OkB.next{d:Gra}{c:Nat->Nat}{long k:Nat}{B:Nat->Nat}(o:OkB d c long k (dY d c k).length B):OkB d c long (k+1) 0 B:=fun f a g=>by
 rw [o f a g,Xn]
 simp only [List.take_zero,Xt,and_false,or_false]
 constructor
 . rintro(⟨h,b⟩|⟨rfl,b⟩)
   . exact⟨by omega,b⟩
   . exact⟨by omega,b⟩
 . rintro⟨h,b⟩
   by_cases e:f=k
   . subst e;exact .inr ⟨rfl,b⟩
   . exact .inl ⟨by omega,b⟩
theorem OkB.set{b:Gra}{c:Nat->Nat}{long k i:Nat}{B:Nat->Nat}(m:long=(b.arcs.length+7)/8)(o:OkB b c long k i B)(j:i<(dY b c k).length)(hlt:(dY b c k)[i]<b.arcs.length):OkB b c long k (i+1) (c8 B (k*long+(dY b c k)[i]/8) (setB (B (k*long+(dY b c k)[i]/8)) ((dY b c k)[i]%8))):=fun g a l=>by
 rw [bitB_set (by omega) (by omega),Xe j]
 by_cases e:g=k/\a=(dY b c k)[i]
 . rw [if_pos e]
   obtain⟨rfl,e⟩:=e
   subst e
   exact⟨fun _=>.inr ⟨rfl,List.mem_append.2 (.inr (List.mem_singleton.2 rfl))⟩,fun _=>rfl⟩
 . rw [if_neg e,o g a l]
   simp only [XC,XH]
   constructor
   . rintro(h|⟨f,d⟩)
     . exact .inl h
     . exact .inr ⟨f,.inl d⟩
   . rintro(h|⟨f,d|d⟩)
     . exact .inl h
     . exact .inr ⟨f,d⟩
     . exact absurd ⟨f,d⟩ e
theorem worthL_lt{d:Gra}{c:Nat->Nat}{k a:Nat}(h:a∈dY d c k):a<d.arcs.length:=by
 unfold dY at h
 rcases List.mem_append.1 h with h|h
 . exact List.mem_range.1 (List.mem_filter.1 h).1
 . obtain⟨b,_,h⟩:=List.mem_flatMap.1 h
   exact List.mem_range.1 (List.mem_filter.1 h).1
theorem perm_db{α:Type}{x a b d:α}{l:List α}:List.Perm (x::([a,b]++(d::l))) ([d,x,a,b]++l):=by
 show List.Perm ([x,a,b]++d::l) (d::([x,a,b]++l))
 exact List.perm_middle
theorem v8{L:List (Nat×Ob)}{a:List Nat}:keys (L++cV a) []=L.map Prod.fst++a:=by
 simp [keys,cV,XL]
theorem ofB_ok {h0:Hp} (ok:h0.t.Sized h0.n) {p:Gra} {nb mb bp cb:Nat} {m:List Int} {c:Nat->Nat} {M:Nat} (A:Good p) (hn:aV h0 nb (ptrTo bp) p) (x:eS h0 mb (ptrTo cb) p.nodes m c) (hM:fu m+1=(M:Int)) (P:M<=100):
 Ret zM 88 [ptrTo bp,ptrTo cb] h0 fun r K=>Gr h0 K/\ ∃fp fb B,r=ptrTo fp/\h0.n<=fp/\h0.n<=fb/\fp≠fb/\gX K fp fb M p.arcs.length ((p.arcs.length+7)/8) B/\OkB p c ((p.arcs.length+7)/8) M 0 B:=by
 have S:=Si ok
 have n1:=A.n1
 have n2:=A.n2
 have af:=A.many
 have xl:=x.len
 have co: ∀{h},Gr h0 h->ji h (ptrTo cb) m (M:Int):=fun g=>.inr ⟨⟨_,(x.gr g).at0⟩,by rw [hM]⟩
 refine ac (n:=33) (rs:=[.tmp 4]) rfl Tryz.e88 rfl rfl rfl (lbt rfl) ?_
 simp only [BS,LB,Nat.reduceLT,Nat.reduceEqDiff]
 refine am (yo S.ok hn (co S.gr) n1 (by omega)) ?_
 intro h1 g1;replace S:=S.call g1
 simp only [BS,LB,Nat.reduceLT,Nat.reduceEqDiff,xl]
 refine am (vt S.ok (co S.gr)) ?_
 intro N Q;replace S:=S.call Q
 simp only [BS,LB,Nat.reduceLT,Nat.reduceEqDiff]
 refine am (kZ S.ok (hn.gr S.gr)) ?_
 intro h3 g3;replace S:=S.call g3
 simp only [BS,LB,Nat.reduceLT,Nat.reduceEqDiff]
 refine step_ret (bmNew_ok S.ok P (by omega)) ?_
 rintro r t ⟨R,fp,fb,rfl,nf,al,D,U⟩
 have k3:=S.gr.n
 have aL:=S.ok
 have gq:=S.gr.trans R
 have kN:=R.n
 have gS:=S.gr
 clear S
 have S:St (· =fb) t t [(fb,.row _ 1)] []:=St.init1 R.ok (o:=.row _ 1) U.b
 have zf:=U.b.lt R.ok
 have zp:=U.r.lt R.ok
 simp only [BS,Fp]
 refine ag ax S ?_;clear S;intro h s S ai
 simp only [BS,LB,Nat.reduceLT,Nat.reduceEqDiff]
 refine ay (az S (i:=0) rfl ?_ ?_ ?_ ono) ?_
 . exact(by simp only [Fp])
 . exact(by exact ct)
 . exact Xj (lbt rfl)
 clear S;rintro h ⟨S,mo⟩;clear mo;simp only [LC,ah,lay,Xx,Xy,Nat.reduceAdd]at S
 simp only [BS,LB,Nat.reduceLT,Nat.reduceEqDiff]
 have gO: ∀{h:Hp} {L:List (Nat×Ob)} {G:List GL},St (· =fb) t h L G->Gr h0 h:=fun S=>(gq.fr.trans S.fr (fun b e=>.inr (by subst e;omega)):Mo NoM _ _).gr
 have kO: ∀{h:Hp} {L:List (Nat×Ob)} {G:List GL},St (· =fb) t h L G->gX t fp fb M p.arcs.length ((p.arcs.length+7)/8) (fun _=>0)->Row h fp [.int .i64 M,.int .i64 p.arcs.length,.int .i64 ((p.arcs.length+7)/8:Nat),.slice (some ⟨fb,0,none⟩) (M*((p.arcs.length+7)/8)) (M*((p.arcs.length+7)/8))] 1:=fun S b=>Row.of_get (S.fr.get fp zp D) b.r
 have hr:=fun {h:Hp} {L:List (Nat×Ob)} {G:List GL} (S:St (· =fb) t h L G)=>kO S U
 refine am (vt S.ok (co (gO S))) ?_
 intro h4 g4;replace S:=S.call g4
 simp only [BS]
 generalize u:(p.arcs.length+7)/8=f at*
 refine pg (fun(k:Nat) O d h=>k<=M/\ ∃l B,d=l.map pj/\St (· =fb) t h ([(s,.row [ptrTo fp] 1),(fb,.row (iL (M*f) B) 1)]++cV l) []/\(∀j,B j<256)/\OkB p c f k 0 B/\O 0=ptrTo bp/\O 1=ptrTo cb/\O 5=ptrTo s/\O 18=.int .i64 (M:Nat)/\O 19=.int .i64 k) (fun k=>M-k) ?_ 0 _ _ _ ?_
 . clear S g4
   rintro k ih O d h ⟨hk,l,B,rfl,S,hB,oB,r0,r1,r5,r18,r19⟩
   have w:an .i64 ((k:Int)+1)=((k+1:Nat):Int):=by rw [wrap64]<;>omega
   by_cases hlt:k<M
   . simp only [BS,LB,Nat.reduceLT,Nat.reduceEqDiff,Fp,r18,r19,aA,hlt]
     refine ag ax S ?_;clear S;intro h z S ak
     simp only [BS,LB,Nat.reduceLT,Nat.reduceEqDiff]
     refine ay (az S (i:=0) rfl ?_ ?_ ?_ ono) ?_
     . exact(by simp only [Fp])
     . exact(by exact bU)
     . exact Xj (lbt rfl)
     clear S;rintro h ⟨S,mo⟩;clear mo;simp only [LC,ah,lay,Xx,Xy,Nat.reduceAdd]at S
     simp only [BS,LB,Nat.reduceLT,Nat.reduceEqDiff,Fp,r0,r1,S.ld (b:=z) (o:=0) m0 rfl]
     refine step_ret (worth_ok S.ok (k:=k) ct) ?_
     rintro v hW ⟨gW,w3,w4,w5,rfl,n3,n4,n5,e3,e4,e5⟩
     have kk: ∀b∈[z,s,fb]++l,h0.n<=b/\b<w3/\b<w4/\b<w5/\b<hW.n:=fun b q=>by
      have hm:b∈keys ([(z,Ob.row [.int .i64 (k:Nat)] 1),(s,.row [ptrTo fp] 1),(fb,.row (iL (M*f) B) 1)]++cV l) []:=by rw [v8];exact q
      have h1:=S.key_lt hm
      have N:=S.key_own hm
      have h3:=gW.n
      have h4:h0.n<=b:=N.elim (fun h=>by omega) (fun h=>by subst h;omega)
      omega
     replace S:=S.call gW
     have a0:=gW.n
     have V:=gO S
     have zN:=S.fr.n
     have it:=worth1_it ok S.ok V.keep V.n A hn x e3 e4 e5
     simp only [BS]
     refine fT S (g:=229) (a:=#[]) (b:=#[ptrTo w3,ptrTo w4,ptrTo w5]) (by simp [ca,aa,ae]) rfl rfl ?_
     intro N C E W a1 a2 Q
     obtain⟨X,hX,W⟩: ∃X:ez,X=_/\St (· =fb) t N ([(E,.loop X),(C,.dfr),(z,.row [.int .i64 (k:Nat)] 1),(s,.row [ptrTo fp] 1),(fb,.row (iL (M*f) B) 1)]++cV l) []:=⟨_,rfl,W⟩
     have hJ:Yld zM E (fun i K F=> ∃B,St (· =fb) t K ([(E,.loop X),(C,.dfr),(z,.row [.int .i64 (k:Nat)] 1),(s,.row [ptrTo fp] 1),(fb,.row (iL (M*f) B) 1)]++cV l) []/\(∀j,B j<256)/\OkB p c f k i B/\F=[E,C,z,s,fb]++l) (fun _ _=>False) ((dY p c k).map fun(a:Nat)=>[.int .i64 (a:Nat)]):=by
      refine⟨?_,?_,fun _ _ h=>h.elim,?_⟩
      . rintro i h F ⟨B,S,_,_,rfl⟩;exact⟨S.ok,fun b q=>S.key_lt (by rw [v8];exact q)⟩
      . rintro i h F K ⟨B,S,a,b,rfl⟩ gg;exact⟨B,S.call gg,a,b,rfl⟩
      . rintro i x hR F H ⟨B,S,hB,oB,rfl⟩
        have I:i<(dY p c k).length:=by
         have:=(List.getElem?_eq_some_iff.1 H).1
         simpa using this
        rw [Xi,Xc I]at H
        cases H
        have J:(dY p c k)[i]<p.arcs.length:=worthL_lt (Xf I)
        have Y:=oB.set u.symm I J
        generalize(dY p c k)[i]=a at J Y
        subst hX
        refine fS (S.get m0) (by rw [Tryz.e88];rfl) rfl ?_
        have S0:=S
        replace S:=S.base
        simp only [BS,LB,Nat.reduceLT,Nat.reduceEqDiff]
        refine eX S (i:=0) rfl rfl rfl rfl rfl ?_
        clear S;intro h S
        simp only [LC]at S
        simp only [BS,LB,Nat.reduceLT,Nat.reduceEqDiff,Fp,r5,S.ld (b:=z) (o:=0) m2 rfl,S.ld (b:=s) (o:=0) m3 rfl]
        have BA:gX h fp fb M p.arcs.length f B:=⟨hr (S0.rebase S),S.row (b:=fb) m4,hB⟩
        refine step_ret (bSet_ok S.ok BA D hlt J P (by omega) u.symm) ?_
        rintro v h5 ⟨f5,rfl,B5⟩
        have S5:=S.call1 (i:=4) (o':=.row _ 1) rfl f5 B5.b
        simp only [XG,List.set_cons_succ]at S5
        clear S
        simp only [BS]
        refine dE S5 (i:=0) rfl ?_
        clear S5;intro h S
        simp only [LC]at S
        refine .inl ⟨rfl,_,⟨_,S0.rebase S,B5.lt,Y,rfl⟩,?_,fun c hc=>.inl hc⟩
        exact S.fr.mono fun b q=>by simpa [keys,cV,XL]using q
     refine eB (it E _ _ (fun _ _ h=>h) hJ N ([E,C,z,s,fb]++l) ?_ ⟨B,W,hB,oB,rfl⟩) fun o rc K y=>iI y ?_
     . have kn:=Q.n
       refine⟨W.ok,Q.n,fun b q hd=>Q.get b q,fun b q h=>?_,fun b q=>W.key_lt (by simpa [keys,cV,XL]using q)⟩
       simp only [XC,XJ,Xt,or_false]at q
       obtain⟨h1,N⟩:=h
       have H:b=E\/b=C\/b∈[z,s,fb]++l:=by
        rcases q with(q|q|q)|q
        . exact .inl q
        . exact .inr (.inl q)
        . exact .inr (.inr (List.mem_append.2 (.inl (by simpa using q))))
        . exact .inr (.inr (List.mem_append.2 (.inr q)))
       rcases H with rfl|rfl|H
       . omega
       . omega
       . have:=kk b H
         omega
     . rintro F ⟨B1,T,ad,Z,rfl⟩
       rw [XB]at Z
       subst hX
       refine⟨_,T.get m0,XT,?_⟩
       replace T:=T.dead
       show Run _ _ _ _ _ _ _ _
       have T1:St (· =fb) t _ ([(C,.dfr),(z,.row [.int .i64 (k:Nat)] 1),(s,.row [ptrTo fp] 1),(fb,.row (iL (M*f) B1) 1)]++cV l) []:=T
       have T':St (· =fb) t _ ([(s,.row [ptrTo fp] 1),(fb,.row (iL (M*f) B1) 1)]++(C,.dfr)::cV l) []:=(T1.permL perm_db).drop1
       simp only [BS,LB,Nat.reduceLT,Nat.reduceEqDiff,r19,w]
       exact ih (k+1) _ _ _ (by omega) ⟨by omega,C::l,B1,rfl,T',ad,Z.next,by simp [aa,r0,ae],by simp [aa,r1,ae],by simp [aa,r5,ae],by simp [aa,r18],by simp [aa]⟩
   . have:k=M:=by omega
     subst this
     have gE:=gO S
     have S0:=S
     simp only [LC]at S
     simp only [BS,LB,Nat.reduceLT,Nat.reduceEqDiff,Fp,r5,r18,r19,aA,hlt,S.ld (b:=s) (o:=0) m0 rfl]
     refine dC (fi l _ (L:=[(s,_),(fb,_)]) (S0.permL List.perm_append_comm) fun h4 S4=>?_)
     refine⟨rfl,(kM (by decide)).2 (dV.2 ?_)⟩
     refine⟨gO S4,fp,fb,B,?_,by omega,by omega,D,⟨hr S4,S4.row m1,hB⟩,oB⟩
     exact rfl
 . exact⟨Xg _,[],_,rfl,S,U.lt,OkB.zero,by simp [aa,bV,ae],by simp [aa,bV,ae],by simp [aa,ae],by simp [aa],by simp [aa]⟩
def Tryz.F0n:=aj t1<|aj t2<|aj t3<|aj t4<|aj t5<|aj t6<|aj Z3<|aj Z4<|aj t9<|aj t22<|aj t33<|aj t74<|aj t78<|Z10
theorem allowF_ok{h0:Hp}(J:h0.t.Sized h0.n){fp fb rows f long k:Nat}{B:Nat->Nat}(m:gX h0 fp fb rows f long B)(K:k<rows)(l:rows<=100)(o:f<=1000)(p:long=(f+7)/8):
 Ret zM 92 [ptrTo fp,.int .i64 (k:Nat)] h0 fun r A=>Gr h0 A/\ ∃g,r=.slice (some ⟨g,0,none⟩) f f/\Row A g (dp f (fJ B long k)) 1/\h0.n<=g:=by
 have S:=Si J
 have M: ¬((k:Int)<0):=by omega
 have N: ¬((rows:Int)<=(k:Int)):=by omega
 refine ac (n:=32) (rs:=[.tmp 4]) rfl Tryz.e92 rfl rfl rfl (lbt rfl) ?_
 simp only [BS,LB,Nat.reduceLT,Nat.reduceEqDiff,M]
 refine am (mH S.ok m.bits) ?_
 intro O P;replace S:=S.call P
 simp only [BS,LB,Nat.reduceLT,Nat.reduceEqDiff,N]
 refine am (j8 S.ok (m.gr S.gr).bits) ?_
 intro h2 Q;replace S:=S.call Q
 simp only [BS,LB,Nat.reduceLT,Nat.reduceEqDiff]
 refine ag (jF (by exact Tryz.t74.1) (by exact Tryz.e4E) (by omega) (by omega)) S ?_;clear S;intro h g S s
 have R:aT [Value.bool false] f=dp f (fun a=>decide (a∈((zO f).filter (fJ B long k)).take 0)):=by
  rw [lJ]
  unfold dp
  simp [XS]
 rw [Xh,R]at S
 simp only [BS,LB,Nat.reduceLT,Nat.reduceEqDiff,Xh]
 refine step_ret (bRow_ok S.ok (m.gr S.gr) K l o p) ?_
 rintro v T ⟨U,C,V⟩
 have k3:=(S.row (b:=g) m0).lt S.ok
 replace S:=S.call U
 generalize D:(zO f).filter (fJ B long k)=L at C S
 have E: ∀a∈L,a<f:=fun a G=>by rw [<-D]at G;exact List.mem_range.1 (List.mem_filter.1 G).1
 have W:L.length<=f:=by rw [<-D];exact pY
 have X:=S.ok
 have nA:=S.gr
 simp only [BS,LB,Nat.reduceLT,Nat.reduceEqDiff,F0n,C.lenq]
 refine aQ (fun(i:Nat) t h=>i<=L.length/\St NoM h0 h [(g,.row (dp f (fun a=>decide (a∈L.take i))) 1)] []/\(∀c,ar v c->h.get c=T.get c)/\t 5=.slice (some ⟨g,0,none⟩) f f/\t 21=v/\t 22=.int .i64 (L.length:Nat)/\t 23=.int .i64 i) (fun i=>L.length-i) ?_ 0 _ _ ?_
 . clear S
   intro i Y t h ⟨hi,S,hv,r5,r21,r22,r23⟩
   have w:an .i64 ((i:Int)+1)=((i+1:Nat):Int):=by rw [wrap64]<;>omega
   by_cases hlt:i<L.length
   . have H:=sl_get C hv
     obtain⟨d,Z,x0,y⟩:=H.ix (kd:=.i64) dG hlt
     have q:=E _ (Xf hlt)
     have F:dp f (fun u=>decide (u∈L.take (i+1)))=(dp f (fun u=>decide (u∈L.take i))).set L[i] (.bool true):=by
      rw [zw]
      refine jQ fun j _=>?_
      rw [Xe hlt]
      simp only [XC,XH]
      by_cases e1:j=L[i]<;>by_cases e2:j∈L.take i<;>simp [e1,e2]
     rw [show(L.take (i+1))=L.take (i+1)from rfl]at F
     generalize L[i]=x at q y F
     replace y:h.load d Z 1=some [.int .i64 (x:Nat)]:=y
     simp only [BS,LB,Nat.reduceLT,Nat.reduceEqDiff,F0n,r5,r21,r22,r23,aA,hlt,x0,y]
     have I:=S
     replace S:=S.base
     simp only [BS,LB,Nat.reduceLT,Nat.reduceEqDiff,q]
     refine ay (az S (i:=0) rfl Tryz.t4.2.2.1 oz (by rw [qr];exact q) ono) ?_
     clear S;rintro A ⟨S,mo⟩
     simp only [LC]at S
     simp only [BS,LB,Nat.reduceLT,Nat.reduceEqDiff,r23,w]
     refine Y (i+1) _ _ (by omega) ⟨by omega,?_,?_,by simp [aa,r5],by simp [aa,r21],by simp [aa,r22],by simp [aa]⟩
     . rw [F];exact I.rebase S
     . intro c z
       have O:=V c z
       exact(mo.get c (H.blt I.ok z) (fun e=>by have e:c=g:=e;omega)).trans (hv c z)
   . have:i=L.length:=by omega
     subst this
     simp only [BS,LB,ab,Nat.reduceLT,Nat.reduceEqDiff,r5,r22,r23,aA,hlt]
     refine⟨S.gr,g,rfl,?_,s⟩
     have e:dp f (fJ B long k)=dp f (fun a=>decide (a∈L.take L.length)):=jQ fun j hj=>by
      rw [Xn,<-D]
      simp [List.mem_filter,hj]
     rw [e]
     exact S.row m0
 . exact⟨Xg _,S,fun c z=>rfl,by simp [aa],by simp [aa],by simp [aa],by simp [aa]⟩

end Go.Ab
end
section
namespace Go.Ab
inductive PathA(A:List Arc)(s:Nat):List Nat->Nat->Nat->Prop where
 |nil:PathA A s [] s 0
 |snoc {l:List Nat} {w a:Nat}:PathA A s l (A.getD a default).s w->a<A.length->PathA A s (l++[a]) (A.getD a default).t (w+(A.getD a default).w)
def endA(A:List Arc)(s:Nat)(l:List Nat)(i:Nat):Nat:=if i=0 then s else(A.getD (l.getD (i-1) 0) default).t
def sumA(A:List Arc)(l:List Nat)(k:Nat):Nat:=((l.take k).map fun a=>(A.getD a default).w).sum
theorem sY{l:List Nat}{a i:Nat}(h:i<l.length):(l++[a]).getD i 0=l.getD i 0:=by
 rw [Xa,Xa,Xk h]
theorem te{l:List Nat}{a:Nat}:(l++[a]).getD l.length 0=a:=by simp [Xa]
theorem xL{A:List Arc}{s a i:Nat}{l:List Nat}(h:i<=l.length):endA A s (l++[a]) i=endA A s l i:=by
 unfold endA
 split
 . rfl
 . rw [sY (by omega)]
theorem PathA.at{A:List Arc}{s t w:Nat}{l:List Nat}(h:PathA A s l t w):(∀i,i<l.length->l.getD i 0<A.length/\(A.getD (l.getD i 0) default).s=endA A s l i)/\endA A s l l.length=t/\sumA A l l.length=w:=by
 induction h with
 |nil=>exact⟨fun i c=>absurd c (Nat.not_lt_zero _),rfl,rfl⟩
 | @snoc l w a _ d e=>
   obtain⟨f,g,b⟩:=e
   have j:(l++[a]).length=l.length+1:=by simp
   refine⟨fun i c=>?_,?_,?_⟩
   . rcases Nat.lt_or_ge i l.length with h|h
     . rw [sY h,xL (Nat.le_of_lt h)];exact f i h
     . have:i=l.length:=by omega
       subst this
       rw [te,xL (Xl _)]
       exact⟨d,g.symm⟩
   . rw [j]
     unfold endA
     rw [if_neg (by omega),Nat.add_sub_cancel,te]
   . unfold sumA at b⊢
     rw [Xn]at b⊢
     rw [List.map_append,List.sum_append,b]
     rfl
end Go.Ab

end
section
namespace Go.Ab
open Go.Proofs
set_option maxRecDepth 10000

end Go.Ab
end
section
namespace Go.Ab
open Go.Proofs
section
variable{A:List Arc}{N s:Nat}{al:Nat->Bool}{pi:Nat->Int}{σ:SS}
theorem Sv.als(h:Sv A N s al pi σ): ∀(n:Nat) {v:Nat},(σ.P v).length<=n->(v∈σ.O\/σ.K v≠none)-> ∀a∈σ.P v,a<A.length/\al a=true:=by
 intro n
 induction n with
 | zero=>
   intro v d e a c
   rw [List.eq_nil_of_length_eq_zero (Nat.le_zero.1 d)]at c;cases c
 | succ n f=>
   intro v d e a c
   rcases h.path v e with⟨rfl,g,_⟩|⟨b,i,j,_,k,l,_⟩
   . rw [g]at c;cases c
   . rw [l]at d c
     rcases List.mem_cons.1 c with rfl|c
     . exact⟨i,j⟩
     . exact f (by rw [List.length_cons]at d;omega) (.inl k) a c
end
end Go.Ab

end
section
namespace Go.Ab
end Go.Ab

end
section
namespace Go.Ab
open Go.Proofs
end Go.Ab

end
section
namespace Go.Ab
open Go.Proofs
set_option maxRecDepth 10000


theorem fold_ge(l:List Int)(a:Int):a<=l.foldl max a/\ ∀x∈l,x<=l.foldl max a:=by
 induction l generalizing a with
 |nil=>exact⟨Int.le_refl _,fun x h=>by cases h⟩
 | cons y e c=>
   obtain⟨f,d⟩:=c (max a y)
   refine⟨by rw [List.foldl_cons];omega,fun x b=>?_⟩
   rw [List.foldl_cons]
   rcases List.mem_cons.1 b with rfl|b
   . omega
   . exact d x b
theorem lmax_ge{l:List Int}{x:Int}(h:x∈l):x<=fu l:=by
 cases l with
 |nil=>cases h
 | cons y a=>
   rw [fu]
   rcases List.mem_cons.1 h with rfl|h
   . exact(fold_ge a _).1
   . exact(fold_ge a _).2 x h
theorem slB_of{h:Hp}{a n:Nat}{f:Nat->Bool}(R:Row h a (dp n f) 1):av h 1 encB (.slice (some ⟨a,0,none⟩) n n) ((zO n).map f):=by
 refine .inr ⟨a,0,none,n,by simp,by simp,?_⟩
 rw [R.load (by rw [qr];simp),List.drop_zero,XU (by rw [qr];simp),List.flatMap_map]
 exact congrArg some X2
end Go.Ab
end

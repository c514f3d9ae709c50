/- Nets, cells, flags: what the functions do (part 4). -/
import Derived.Test.YtfdopodkngggfaaGreatDoorNetC
open Go.Ab.Tryz
open Go.Ab.Tryz renaming abEnv->zM,e3E->Xq,e64->XY
open List renaming range->zO,getD_eq_getElem?_getD->Xa,getElem?_eq_getElem->Xb,take_succ_eq_append_getElem->Xd,getElem_mem->Xh,getElem?_map->Xi,getElem?_append_left->Xm,take_length->Xo,length_append->Xp,not_mem_nil->Xt,getElem?_append_right->Xu,mem_append->Xw,take->Xy,drop->Xz,append_nil->XA,length_map->XC,mem_filter->XD,filterMap_nil->XG,set_cons_zero->XH,mem_singleton->XI,mem_cons->XK,drop_eq_getElem_cons->XN,map_const'->XT,map_append->XU,flatMap_eq_foldl->XW,map_cons->X2,map_congr_left->X4,filterMap_cons->X5,getElem_of_mem->X6,flatMap_append->X7,map_nil->X8
open Nat renaming lt_of_lt_of_le->Xc,zero_le->Xf,le_trans->Xg,zero_add->Xj,le_refl->Xk,lt_of_succ_le->Xl,mul_one->Xn,zero_mul->Xr,mul_le_mul_right->Xs,one_mul->Xv,lt_of_le_of_lt->Xx,and_le_left->XB,testBit_two_pow->XE,xor_lt_two_pow->XF,add_comm->XO,le_mul_of_pos_right->XQ,add_sub_cancel_left->XR,testBit_and->XS,zero_ne_one->XV,blt_eq->XX,add_assoc->X3,land->X9
open Int renaming toNat_natCast->Xe,tdiv_eq_ediv_of_nonneg->XJ,eq_ofNat_of_zero_le->XP
open Bool renaming and_true->XL,true_and->XZ
open Function renaming comp_def->XM
set_option maxHeartbeats 4000000
set_option linter.defProp false
set_option linter.unusedVariables false
set_option linter.unusedSimpArgs false
section
namespace Go.Ab
open Go.Proofs
set_option maxRecDepth 10000
def Tryz.F0z:=aj t1<|aj t2<|aj t3<|aj t4<|aj t24<|aj Z0<|aj t32<|aj t33<|aj t51<|aj t114<|aj t117<|aj t119<|aj Z5<|aj t149<|Z1
def Tryz.F1g:=aj t1<|aj t2<|aj t3<|aj t4<|aj t24<|aj t33<|aj t51<|aj t114<|Z5
def Tryz.F1h:=aj t1<|aj t2<|aj t3<|aj t4<|aj t24<|aj t33<|aj t51<|aj t114<|Z5
def Tryz.F1i:=aj t1<|aj t2<|aj t3<|aj t24<|aj t33<|aj t51<|aj t114<|Z5
def Tryz.F1j:=aj t1<|aj t2<|aj t3<|aj t24<|aj t33<|aj t51<|aj t114<|Z5
def Tryz.Fy:=aj t1<|aj t2<|aj t3<|aj t4<|aj t24<|aj t33<|aj t51<|aj t114<|aj Z5<|t284
noncomputable def toR(a:Gra)(l:List Int)(i:Nat):List Int:=ke (seen a.arcs Arc.t Arc.s) a.nodes (l.getD i 0).toNat
noncomputable def frR(a:Gra)(l:List Int)(i:Nat):List Int:=ke (seen a.arcs Arc.s Arc.t) a.nodes (l.getD i 0).toNat
theorem tabOf_ok{h0:Hp}(z:h0.t.Sized h0.n){k:Gra}(q:Good k){A G:Value}{I:Nat}(t:aR h0 I A k){l:List Int}(o:au h0 1 (encI .i64) G l)(f:l.length<1000):
 Ret zM 14 [A,G] h0 fun r H=>Gr h0 H/\((¬fJ k.nodes l/\r=.pointer none)\/(fJ k.nodes l/\TabAt H h0.n r k.nodes l (toR k l) (frR k l))):=by
 have S:=Si z
 obtain⟨N,rfl⟩: ∃b,A=ptrTo b:=by obtain⟨b,_,_,_,_,_,e,_⟩:=t.ex;exact⟨b,e⟩
 refine ab (n:=28) (rs:=[.tmp 4]) rfl Tryz.e14 rfl rfl rfl (lbt rfl) ?_
 simp only [BS,LB,Nat.reduceLT,Nat.reduceEqDiff,F0z]
 refine an (bV S.ok (t.gr S.gr)) ?_;intro h g;replace S:=S.call g;clear g
 simp only [BS,LB,Nat.reduceLT,Nat.reduceEqDiff]
 refine an (may_ok S.ok (o.gr S.gr) (by omega)) ?_;intro h g;replace S:=S.call g;clear g
 by_cases j:fJ k.nodes l
 . have B:decide (fJ k.nodes l)=true:=decide_eq_true j
   simp only [BS,LB,Nat.reduceLT,Nat.reduceEqDiff,B]
   refine an (bV S.ok (t.gr S.gr)) ?_;intro h g;replace S:=S.call g;clear g
   simp only [BS,LB,Nat.reduceLT,Nat.reduceEqDiff]
   have J:=S.fr.n
   refine step_ret (jw S.ok (bG .i64) (o.gr S.gr) (by omega)) ?_;intro v h ⟨g,d,hM⟩;replace S:=S.call g;clear g
   rename Value=>vM
   obtain⟨O,P,Q,rfl⟩:=d.form
   simp only [BS,LB,Nat.reduceLT,Nat.reduceEqDiff]
   refine step_ret (rows_ok S.ok cI o.fl ip) ?_;intro v h ⟨g,b1,b2,b3,e,q1,q2,q3,y1,y2,y3⟩;replace S:=S.call g;replace d:=d.gr g;clear g
   subst e
   simp only [BS,LB,Nat.reduceLT,Nat.reduceEqDiff]
   have y:=rows_it z S.ok S.gr.keep S.fr.n t (o.gr S.gr) (fun i u=>⟨(j.2 i u).1,(j.2 i u).2.1⟩) f (runTo q) (m:=h0.n) S.fr.n y1 y2 y3
   refine step_ret (tM S.ok y S.fr.n f) ?_;intro v h ⟨g,p⟩;replace S:=S.call g;replace d:=d.gr g;clear g
   rename Value=>vT
   obtain⟨R,T,U,rfl⟩: ∃a n c,vT=.slice a n c:=by obtain⟨_,s,_⟩:=p;exact s.form
   clear y y1 y2 y3 q1 q2 q3
   simp only [BS,LB,Nat.reduceLT,Nat.reduceEqDiff]
   refine step_ret (rows_ok S.ok cI o.fl ip) ?_;intro v h ⟨g,b1,b2,b3,e,q1,q2,q3,y1,y2,y3⟩;replace S:=S.call g;replace d:=d.gr g;replace p:=p.gr g;clear g
   subst e
   simp only [BS,LB,Nat.reduceLT,Nat.reduceEqDiff]
   have y:=rows_it z S.ok S.gr.keep S.fr.n t (o.gr S.gr) (fun i u=>⟨(j.2 i u).1,(j.2 i u).2.1⟩) f (runFrom q) (m:=h0.n) S.fr.n y1 y2 y3
   refine step_ret (tM S.ok y S.fr.n f) ?_;intro v h ⟨g,L2⟩;replace S:=S.call g;replace d:=d.gr g;replace p:=p.gr g;clear g
   rename Value=>vF
   obtain⟨V,W,X,rfl⟩: ∃a n c,vF=.slice a n c:=by obtain⟨_,s,_⟩:=L2;exact s.form
   simp only [BS,LB,Nat.reduceLT,Nat.reduceEqDiff,Nat.reduceAdd,F0z]
   have K:=S
   replace S:=S.base
   refine ae (bg (by intro x e;cases e)) S ?_;clear S;intro h b S L;simp only [ah]at S
   simp only [BS,LB,ac,Nat.reduceLT,Nat.reduceEqDiff]
   have C:=S.fr
   have w:=d.mo C (fun c _ j=>by cases j)
   have D:=p.mo C (fun c j=>by cases j)
   have E:=L2.mo C (fun c j=>by cases j)
   have F:=S.row (b:=b) m0
   replace S:=K.rebase S
   exact⟨S.gr,.inr ⟨j,⟨b,_,_,_,rfl,F,w,D,E,(S.own _ m0).1.elim (fun h=>h) (fun h=>h.elim),fun c M=>Xg J (hM c M)⟩⟩⟩
 . have B:decide (fJ k.nodes l)=false:=decide_eq_false j
   simp only [BS,LB,ac,Nat.reduceLT,Nat.reduceEqDiff,B]
   exact⟨S.gr,.inl j⟩
theorem pk{h0:Hp}(a:h0.t.Sized h0.n){m N:Nat}{p:Value}{l:List Int}{R Q:Nat->List Int}(t:TabAt h0 m p N l R Q):aK zM 79 [p] h0 (.int .i64 N):=by
 have S:=Si a
 obtain⟨b,e,f,g,rfl,c,_⟩:=t.ex
 have d:=c.load1 (o:=0) rfl
 refine ab (n:=9) (rs:=[.tmp 2]) rfl Tryz.e79 rfl rfl rfl (lbt rfl) ?_
 simp only [BS,LB,ac,Nat.reduceLT,Nat.reduceEqDiff,F1g,d]
 exact S.gr
theorem mS{h0:Hp}(e:h0.t.Sized h0.n){m N:Nat}{p:Value}{l:List Int}{R Q:Nat->List Int}(t:TabAt h0 m p N l R Q)(a:l.length<1000):Ret zM 78 [p] h0 fun r d=>Gr h0 d/\au d 1 (encI .i64) r l/\ ∀c,ar r c->h0.n<=c:=by
 have S:=Si e
 obtain⟨b,k,q,s,rfl,f,i,_⟩:=t.ex
 have j:=f.load1 (o:=1) rfl
 refine ab (n:=10) (rs:=[.tmp 2]) rfl Tryz.e78 rfl rfl rfl (lbt rfl) ?_
 simp only [BS,LB,Nat.reduceLT,Nat.reduceEqDiff,F1h,j]
 refine step_ret (jw S.ok (bG .i64) i (by omega)) ?_;intro v h ⟨g,sl,hc⟩;replace S:=S.call g;clear g
 simp only [BS,LB,ac,Nat.reduceLT,Nat.reduceEqDiff]
 exact⟨S.gr,sl,hc⟩
def fQ(N n:Nat)(R:Nat->List Int)(i v:Int):Int:=if 0<=i/\i<n/\0<=v/\v<N then(R i.toNat).getD v.toNat 0 else 72057594037927936
theorem tos_ok{h0:Hp}(c:h0.t.Sized h0.n){m N:Nat}{p:Value}{l:List Int}{R Q:Nat->List Int}(t:TabAt h0 m p N l R Q):Ret zM 199 [p] h0 fun r a=>Gr h0 a/\ie a m r l.length R:=by
 have S:=Si c
 obtain⟨b,f,g,h,rfl,d,_,L,_⟩:=t.ex
 have e:=d.load1 (o:=2) rfl
 refine ab (n:=7) (rs:=[.tmp 2]) rfl Tryz.e199 rfl rfl rfl (lbt rfl) ?_
 simp only [BS,LB,ac,Nat.reduceLT,Nat.reduceEqDiff,F1i,e]
 exact⟨S.gr,L⟩
theorem froms_ok{h0:Hp}(c:h0.t.Sized h0.n){m N:Nat}{p:Value}{l:List Int}{R Q:Nat->List Int}(t:TabAt h0 m p N l R Q):Ret zM 200 [p] h0 fun r a=>Gr h0 a/\ie a m r l.length Q:=by
 have S:=Si c
 obtain⟨b,f,g,h,rfl,d,_,_,L,_⟩:=t.ex
 have e:=d.load1 (o:=3) rfl
 refine ab (n:=7) (rs:=[.tmp 2]) rfl Tryz.e200 rfl rfl rfl (lbt rfl) ?_
 simp only [BS,LB,ac,Nat.reduceLT,Nat.reduceEqDiff,F1j,e]
 exact⟨S.gr,L⟩
theorem wP{h0:Hp}(z:h0.t.Sized h0.n){m N:Nat}{p:Value}{l:List Int}{R Q W:Nat->List Int}(t:TabAt h0 m p N l R Q){g:FuncId}(A: ∀h,Gr h0 h->Ret zM g [p] h fun r s=>Gr h s/\ie s m r l.length W)(B: ∀i,i<l.length->(W i).length=N){i v:Int}:
 aK zM 198 [p,.func (.func g) #[p] #[],.int .i64 i,.int .i64 v] h0 (.int .i64 (fQ N l.length W i v)):=by
 have S:=Si z
 obtain⟨b,I,J,K,rfl,u,e,_⟩:=t.ex
 have x:=u.load1 (o:=0) rfl
 have f:=u.load1 (o:=1) rfl
 unfold fQ
 refine ab (n:=44) (rs:=[.tmp 8]) rfl Tryz.e198 rfl rfl rfl (lbt rfl) ?_
 by_cases a:i<0
 . rw [if_neg (by omega)]
   simp only [BS,LB,ac,Nat.reduceLT,Nat.reduceEqDiff,Fy,a]
   exact S.gr
 . by_cases j:(l.length:Int)<=i
   . rw [if_neg (by omega)]
     simp only [BS,LB,ac,Nat.reduceLT,Nat.reduceEqDiff,Fy,f,a,j,e.lenq]
     exact S.gr
   . by_cases q:v<0
     . rw [if_neg (by omega)]
       simp only [BS,LB,ac,Nat.reduceLT,Nat.reduceEqDiff,Fy,f,a,j,q,e.lenq]
       exact S.gr
     . by_cases y:(N:Int)<=v
       . rw [if_neg (by omega)]
         simp only [BS,LB,ac,Nat.reduceLT,Nat.reduceEqDiff,Fy,x,f,a,j,q,y,e.lenq]
         exact S.gr
       . rw [if_pos (by omega)]
         obtain⟨d,rfl⟩:=XP (show 0<=i by omega)
         obtain⟨k,rfl⟩:=XP (show 0<=v by omega)
         simp only [BS,LB,Nat.reduceLT,Nat.reduceEqDiff,Fy,x,f,a,j,q,y,e.lenq]
         refine step_ret (A _ S.gr) ?_;intro v h ⟨g,L⟩;replace S:=S.call g;clear g
         obtain⟨w,⟨c,o,C,D⟩,sw,_⟩:=L.row (i:=d) (by omega)
         have E:=B d (by omega)
         obtain⟨M,O,F,G⟩:=sw.ix (kd:=.i64) (bG .i64) (i:=k) (by omega)
         have H:(W d).getD k 0=(W d)[k]:=by simp [Xa,show k<(W d).length by omega]
         simp only [BS,LB,ac,Nat.reduceLT,Nat.reduceEqDiff,Fy,C,D,F,G,encI,Xe,H]
         exact S.gr
theorem yu{h0:Hp}(a:h0.t.Sized h0.n){m N:Nat}{p:Value}{l:List Int}{R Q:Nat->List Int}(t:TabAt h0 m p N l R Q)(b: ∀i,i<l.length->(R i).length=N){i v:Int}:aK zM 135 [p,.int .i64 i,.int .i64 v] h0 (.int .i64 (fQ N l.length R i v)):=by
 have S:=Si a
 refine ab (n:=13) (rs:=[.tmp 6]) rfl Tryz.e135 rfl rfl rfl (lbt rfl) ?_
 simp only [BS,LB,Nat.reduceLT,Nat.reduceEqDiff]
 refine an (wP S.ok t (fun h g=>tos_ok g.ok (t.gr g)) b) ?_;intro h g;replace S:=S.call g;clear g
 simp only [BS,LB,ac,Nat.reduceLT,Nat.reduceEqDiff]
 exact S.gr
theorem tX{h0:Hp}(a:h0.t.Sized h0.n){m N:Nat}{p:Value}{l:List Int}{R Q:Nat->List Int}(t:TabAt h0 m p N l R Q)(b: ∀i,i<l.length->(Q i).length=N){i v:Int}:aK zM 137 [p,.int .i64 i,.int .i64 v] h0 (.int .i64 (fQ N l.length Q i v)):=by
 have S:=Si a
 refine ab (n:=13) (rs:=[.tmp 6]) rfl Tryz.e137 rfl rfl rfl (lbt rfl) ?_
 simp only [BS,LB,Nat.reduceLT,Nat.reduceEqDiff]
 refine an (wP S.ok t (fun h g=>froms_ok g.ok (t.gr g)) b) ?_;intro h g;replace S:=S.call g;clear g
 simp only [BS,LB,ac,Nat.reduceLT,Nat.reduceEqDiff]
 exact S.gr
end Go.Ab
end
section
namespace Go.Ab
theorem St.growB{M:Nat->Prop}{h0 h:Hp}{L:List (Nat×Ob)}{G:List GL}(S:St M h0 h L G){E:Env}{t w e:TypeId}{f k m len b md:Nat}{y vs new:List Value}{x:Value}(C:Row h b vs md)(a:len*k=vs.length)(D:E.und t=some (.slice e))(F:dX E e f k y)(H:0<f)
 (q:dE E w=some false) (g:aG h k x=some (m,new)) (z:m*k=new.length) (I:0<m) (A:0<k) (r:(vs.length+new.length)*(f+1)<=70368744177664) {ts:List TypeId}:
 ∃B v',c6 E h (t::w::ts) (.slice (some ⟨b,0,none⟩) len len) x=some (B,v')/\St M h0 B L ((v',k,vs++new)::G):=by
 obtain⟨⟨i,J,rfl,rfl⟩,K,N⟩:=F
 obtain⟨p,el,j,d,s⟩:=C
 have l:Nat.ble (len+m) len=false:=by
  cases q:Nat.ble (len+m) len with
  |false=>rfl
  |true=>exact absurd (lbt q) (by omega)
 have o:len+m<=vs.length+new.length:=by
  rw [<-a,<-z]
  have I:=XQ len A
  have O:=XQ m A
  omega
 have c:(Nat.ble ((len+m)*(i.bytes+1)) 70368744177664&&Nat.blt 0 i.bytes)=true:=by
  rw [Nat.ble_eq_true_of_le (Xg (Xs _ o) r)]
  simp only [XZ]
  rw [XX];exact H
 have u:Nat.beq y.length i.size=true:=by rw [N];exact Nat.beq_refl _
 have v:jn p vs.length 0 (len*i.size) new=some (p.pushAll vs.length new,vs.length+new.length):=by
  unfold jn
  rw [a,Nat.beq_refl vs.length]
  rfl
 refine⟨h.new (.cells (p.pushAll vs.length new) (vs.length+new.length) e 1),.slice (some ⟨h.n,0,some i.size⟩) (len+m) (len+m),?_,S.newG (n:=len+m) ?_ ?_⟩
 . unfold c6
   simp only [q]
   unfold jv
   simp only [D,J,g]
   unfold eJ
   rw [l]
   simp only [cond_false]
   rw [c,K]
   simp only [cond_true,u]
   unfold mU
   simp only [j,v]
 . rw [Nat.add_mul,a,z,Xp]
 . refine⟨p.pushAll vs.length new,e,?_,?_,fun n=>?_⟩
   . rw [Hp.get_new _ _ S.ok,if_pos rfl,Xp]
   . rw [Xp];exact Tr.sized_pushAll _ d
   . rw [Tr.get_pushAll _ _ _ d,List.getElem?_append]
     split
     . exact s n
     . rfl
end Go.Ab

end
section
namespace Go.Ab
open Go.Proofs
set_option maxRecDepth 10000
def Tryz.F0A:=aj t1<|aj t2<|aj t3<|aj t4<|aj t33<|aj t51<|aj t114<|aj Z5<|aj t180<|t212
def Tryz.F0B:=aj t1<|aj t2<|aj t3<|aj t4<|aj t5<|aj t6<|aj t33<|aj t51<|aj t114<|Z5
theorem iD{h0:Hp}(a:h0.t.Sized h0.n){m N:Nat}{p:Value}{l:List Int}{R Q:Nat->List Int}(t:TabAt h0 m p N l R Q){v:Int}:aK zM 94 [p,.int .i64 v] h0 (.bool (decide (0<=v/\v<N))):=by
 have S:=Si a
 refine ab (n:=13) (rs:=[.tmp 4]) rfl Tryz.e94 rfl rfl rfl (lbt rfl) ?_
 by_cases c:0<=v
 . simp only [BS,LB,Nat.reduceLT,Nat.reduceEqDiff,c]
   refine an (pk S.ok (t.gr S.gr)) ?_;intro h g;replace S:=S.call g;clear g
   simp only [BS,LB,ac,Nat.reduceLT,Nat.reduceEqDiff]
   exact S.gr
 . simp only [BS,LB,ac,Nat.reduceLT,Nat.reduceEqDiff,c]
   exact⟨by simp,S.gr⟩
theorem wayTo_ok{h0:Hp}(b:h0.t.Sized h0.n){m N:Nat}{p:Value}{l:List Int}{R Q:Nat->List Int}(t:TabAt h0 m p N l R Q)(a: ∀i,i<l.length->(R i).length=N){i v w:Int}:
 aK zM 134 [.func (.func 135) #[p] #[],.func (.func 136) #[] #[],.int .i64 i,.int .i64 v,.int .i64 w] h0 (.int .i64 (lS (fQ N l.length R i v) (fQ N l.length R i w))):=by
 have S:=Si b
 refine ab (n:=21) (rs:=[.tmp 10]) rfl Tryz.e134 rfl rfl rfl (lbt rfl) ?_
 simp only [BS,LB,Nat.reduceLT,Nat.reduceEqDiff]
 refine an (yu S.ok (t.gr S.gr) a) ?_;intro h g;replace S:=S.call g;clear g
 simp only [BS,LB,Nat.reduceLT,Nat.reduceEqDiff]
 refine an (yu S.ok (t.gr S.gr) a) ?_;intro h g;replace S:=S.call g;clear g
 simp only [BS,LB,Nat.reduceLT,Nat.reduceEqDiff]
 refine an (low_ok S.ok) ?_;intro h g;replace S:=S.call g;clear g
 simp only [BS,LB,ac,Nat.reduceLT,Nat.reduceEqDiff]
 exact S.gr
theorem wayFr_ok{h0:Hp}(b:h0.t.Sized h0.n){m N:Nat}{p:Value}{l:List Int}{R Q:Nat->List Int}(t:TabAt h0 m p N l R Q)(a: ∀i,i<l.length->(Q i).length=N){i v w:Int}:
 aK zM 134 [.func (.func 137) #[p] #[],.func (.func 138) #[] #[],.int .i64 i,.int .i64 v,.int .i64 w] h0 (.int .i64 (lS (fQ N l.length Q i w) (fQ N l.length Q i v))):=by
 have S:=Si b
 refine ab (n:=21) (rs:=[.tmp 10]) rfl Tryz.e134 rfl rfl rfl (lbt rfl) ?_
 simp only [BS,LB,Nat.reduceLT,Nat.reduceEqDiff]
 refine an (tX S.ok (t.gr S.gr) a) ?_;intro h g;replace S:=S.call g;clear g
 simp only [BS,LB,Nat.reduceLT,Nat.reduceEqDiff]
 refine an (tX S.ok (t.gr S.gr) a) ?_;intro h g;replace S:=S.call g;clear g
 simp only [BS,LB,Nat.reduceLT,Nat.reduceEqDiff]
 refine an (lift_ok S.ok) ?_;intro h g;replace S:=S.call g;clear g
 simp only [BS,LB,ac,Nat.reduceLT,Nat.reduceEqDiff]
 exact S.gr
def fh(N n:Nat)(R Q:Nat->List Int)(i v w:Int):Int:=if(0<=v/\v<N)/\(0<=w/\w<N)/\0<=i/\i<n then max (lS (fQ N n R i v) (fQ N n R i w)) (lS (fQ N n Q i w) (fQ N n Q i v))else 0
theorem uC{h0:Hp}(f:h0.t.Sized h0.n){m N:Nat}{p:Value}{l:List Int}{R Q:Nat->List Int}(t:TabAt h0 m p N l R Q)(j: ∀i,i<l.length->(R i).length=N)(k: ∀i,i<l.length->(Q i).length=N)(d:l.length<1000){i v w:Int}:
 aK zM 64 [p,.int .i64 i,.int .i64 v,.int .i64 w] h0 (.int .i64 (fh N l.length R Q i v w)):=by
 have S:=Si f
 by_cases a:0<=v/\v<N
 . by_cases b:0<=w/\w<N
   . by_cases c:i<0
     . rw [show fh N l.length R Q i v w=0 from if_neg (by omega)]
       refine ab (n:=43) (rs:=[.tmp 8]) rfl XY rfl rfl rfl (lbt rfl) ?_
       simp only [BS,LB,Nat.reduceLT,Nat.reduceEqDiff]
       refine an (iD S.ok (t.gr S.gr)) ?_;intro h g;replace S:=S.call g;clear g
       simp only [BS,LB,Nat.reduceLT,Nat.reduceEqDiff,a]
       refine an (iD S.ok (t.gr S.gr)) ?_;intro h g;replace S:=S.call g;clear g
       simp only [BS,LB,ac,Nat.reduceLT,Nat.reduceEqDiff,b,c]
       exact S.gr
     . by_cases e:(l.length:Int)<=i
       . rw [show fh N l.length R Q i v w=0 from if_neg (by omega)]
         refine ab (n:=43) (rs:=[.tmp 8]) rfl XY rfl rfl rfl (lbt rfl) ?_
         simp only [BS,LB,Nat.reduceLT,Nat.reduceEqDiff]
         refine an (iD S.ok (t.gr S.gr)) ?_;intro h g;replace S:=S.call g;clear g
         simp only [BS,LB,Nat.reduceLT,Nat.reduceEqDiff,a]
         refine an (iD S.ok (t.gr S.gr)) ?_;intro h g;replace S:=S.call g;clear g
         simp only [BS,LB,Nat.reduceLT,Nat.reduceEqDiff,b,c]
         refine step_ret (mS S.ok (t.gr S.gr) d) ?_;intro v h ⟨g,slM,_⟩;replace S:=S.call g;clear g
         simp only [BS,LB,ac,Nat.reduceLT,Nat.reduceEqDiff,F0A,e,slM.lenq]
         exact S.gr
       . rw [show fh N l.length R Q i v w=max (lS (fQ N l.length R i v) (fQ N l.length R i w)) (lS (fQ N l.length Q i w) (fQ N l.length Q i v))from if_pos ⟨a,b,by omega,by omega⟩]
         refine ab (n:=43) (rs:=[.tmp 8]) rfl XY rfl rfl rfl (lbt rfl) ?_
         simp only [BS,LB,Nat.reduceLT,Nat.reduceEqDiff]
         refine an (iD S.ok (t.gr S.gr)) ?_;intro h g;replace S:=S.call g;clear g
         simp only [BS,LB,Nat.reduceLT,Nat.reduceEqDiff,a]
         refine an (iD S.ok (t.gr S.gr)) ?_;intro h g;replace S:=S.call g;clear g
         simp only [BS,LB,Nat.reduceLT,Nat.reduceEqDiff,b,c]
         refine step_ret (mS S.ok (t.gr S.gr) d) ?_;intro v h ⟨g,slM,_⟩;replace S:=S.call g;clear g
         simp only [BS,LB,Nat.reduceLT,Nat.reduceEqDiff,F0A,e,slM.lenq]
         refine an (wayTo_ok S.ok (t.gr S.gr) j) ?_;intro h g;replace S:=S.call g;clear g
         simp only [BS,LB,Nat.reduceLT,Nat.reduceEqDiff]
         refine an (wayFr_ok S.ok (t.gr S.gr) k) ?_;intro h g;replace S:=S.call g;clear g
         simp only [BS,LB,ac,Nat.reduceLT,Nat.reduceEqDiff]
         exact S.gr
   . rw [show fh N l.length R Q i v w=0 from if_neg (fun h=>b h.2.1)]
     refine ab (n:=43) (rs:=[.tmp 8]) rfl XY rfl rfl rfl (lbt rfl) ?_
     simp only [BS,LB,Nat.reduceLT,Nat.reduceEqDiff]
     refine an (iD S.ok (t.gr S.gr)) ?_;intro h g;replace S:=S.call g;clear g
     simp only [BS,LB,Nat.reduceLT,Nat.reduceEqDiff,a]
     refine an (iD S.ok (t.gr S.gr)) ?_;intro h g;replace S:=S.call g;clear g
     simp only [BS,LB,ac,Nat.reduceLT,Nat.reduceEqDiff,b]
     exact S.gr
 . rw [show fh N l.length R Q i v w=0 from if_neg (fun h=>a h.1)]
   refine ab (n:=43) (rs:=[.tmp 8]) rfl XY rfl rfl rfl (lbt rfl) ?_
   simp only [BS,LB,Nat.reduceLT,Nat.reduceEqDiff]
   refine an (iD S.ok (t.gr S.gr)) ?_;intro h g;replace S:=S.call g;clear g
   simp only [BS,LB,ac,Nat.reduceLT,Nat.reduceEqDiff,a]
   exact S.gr
def fT(N n:Nat)(R Q:Nat->List Int)(v w:Int)(l:List Int):Int:=l.foldl (fun b i=>max b (fh N n R Q i v w)) 0
theorem yr{h0:Hp}(j:h0.t.Sized h0.n){m N:Nat}{p:Value}{l:List Int}{R Q:Nat->List Int}(t:TabAt h0 m p N l R Q)(q: ∀i,i<l.length->(R i).length=N)(r: ∀i,i<l.length->(Q i).length=N)(s:l.length<1000){d:Value}{act:List Int}(f:au h0 1 (encI .i64) d act)(u:act.length<1000){v w:Int}:
 aK zM 26 [p,d,.int .i64 v,.int .i64 w] h0 (.int .i64 (fT N l.length R Q v w act)):=by
 have S:=Si j
 refine ab (n:=26) (rs:=[.tmp 8]) rfl Tryz.e26 rfl rfl rfl (lbt rfl) ?_
 simp only [BS,LB,Nat.reduceLT,Nat.reduceEqDiff,F0B,f.lenq]
 refine aN (fun(k:Nat) a h=>k<=act.length/\Gr h0 h/\a 0=p/\a 2=.int .i64 v/\a 3=.int .i64 w/\a 8=.int .i64 (fT N l.length R Q v w (act.take k))/\a 11=d/\a 12=.int .i64 act.length/\a 13=.int .i64 k) (fun k=>act.length-k) ?_ 0 _ _ ?_
 . clear S
   intro k x a h ⟨hk,g0,r0,r2,r3,r8,r11,r12,r13⟩
   have y:ao .i64 ((k:Int)+1)=((k+1:Nat):Int):=by rw [wrap64]<;>omega
   by_cases hlt:k<act.length
   . obtain⟨c,o,b,e⟩:=(f.gr g0).ix (kd:=.i64) (bG .i64) hlt
     simp only [BS,LB,Nat.reduceLT,Nat.reduceEqDiff,F0B,r0,r2,r3,r8,r11,r12,r13,aB,hlt,b,e,encI]
     refine an (uC g0.ok (t.gr g0) q r s) ?_
     intro h g
     simp only [BS,LB,Nat.reduceLT,Nat.reduceEqDiff,r13,y]
     refine x (k+1) _ _ (by omega) ⟨by omega,g0.trans g,by simp [aa,r0],by simp [aa,r2],by simp [aa,r3],?_,by simp [aa,r11],by simp [aa,r12],by simp [aa]⟩
     rw [Xd hlt]
     unfold fT
     rw [List.foldl_append]
     simp [aa]
   . simp only [BS,LB,ac,Nat.reduceLT,Nat.reduceEqDiff,r8,r12,r13,aB,hlt]
     rw [List.take_of_length_le (by omega)]
     exact⟨rfl,g0⟩
 . exact⟨Xf _,S.gr,by simp [aa,aP],by simp [aa,aP,bM],by simp [aa,aP,bM],by simp [aa,fT],by simp [aa],by simp [aa],by simp [aa]⟩
theorem exTo{h0:Hp}(c:h0.t.Sized h0.n){a:Gra}(b:Good a){d:Value}{e:Nat}(f:aR h0 e d a){s:Nat}(g:s<a.nodes)(v:Nat):IsD (seen a.arcs Arc.t Arc.s) s v (dOf (seen a.arcs Arc.t Arc.s) s v):=by
 obtain⟨_,_,_,_,_,_,_,D,_,_,_,_,_,_,_,h,_⟩:=qc c b f g
 exact(ur (h v)).2
theorem exFrom{h0:Hp}(c:h0.t.Sized h0.n){a:Gra}(b:Good a){d:Value}{e:Nat}(f:aR h0 e d a){s:Nat}(g:s<a.nodes)(v:Nat):IsD (seen a.arcs Arc.s Arc.t) s v (dOf (seen a.arcs Arc.s Arc.t) s v):=by
 obtain⟨_,_,_,_,_,_,_,D,_,_,_,_,_,_,_,h,_⟩:=qX c b f g
 exact(ur (h v)).2
theorem lP(B:List Arc)(N s:Nat):(ke B N s).length=N:=by simp [ke]
theorem rowD_at{B:List Arc}{N s v:Nat}(a:v<N):(ke B N s).getD v 0=(dOf B s v:Nat):=by simp [ke,Xa,a]
theorem uJ{a:Gra}{l:List Int}{i v:Nat}(c:i<l.length)(b:v<a.nodes):fQ a.nodes l.length (toR a l) i v=(dOf (seen a.arcs Arc.t Arc.s) (l.getD i 0).toNat v:Nat):=by
 unfold fQ
 rw [if_pos ⟨by omega,by omega,by omega,by omega⟩,Xe,Xe]
 exact rowD_at b
theorem uv{a:Gra}{l:List Int}{i v:Nat}(c:i<l.length)(b:v<a.nodes):fQ a.nodes l.length (frR a l) i v=(dOf (seen a.arcs Arc.s Arc.t) (l.getD i 0).toNat v:Nat):=by
 unfold fQ
 rw [if_pos ⟨by omega,by omega,by omega,by omega⟩,Xe,Xe]
 exact rowD_at b
theorem qp{a b:Nat}(c:a<=72057594037927936)(d:b<=72057594037927936):lS (a:Int) (b:Int)=if b<72057594037927936 then(if a<72057594037927936 then max 0 ((a:Int)-b)else 72057594037927936)else 0:=by
 unfold lS wy
 repeat' split
 all_goals omega
theorem seen_back(A:List Arc): ∀a∈seen A Arc.s Arc.t,∃b∈seen A Arc.t Arc.s,b.s=a.t/\b.t=a.s/\b.w=a.w:=by
 intro a d
 obtain⟨i,c,e⟩:=xJ d
 have f:=(rC (fs:=Arc.s) (ft:=Arc.t) c).1
 obtain⟨g,h⟩:=rC (fs:=Arc.t) (ft:=Arc.s) c
 refine⟨_,h,?_⟩
 rw [g,<-e,f]
 exact⟨rfl,rfl,rfl⟩
theorem kY(b:Gra):seen b.arcs Arc.s Arc.t=b.arcs:=by
 unfold seen
 exact(X4 (fun a _=>rfl)).trans (List.map_id _)
end Go.Ab
end
section
namespace Go.Ab
theorem St.toL{M:Nat->Prop}{h0 h:Hp}{L:List (Nat×Ob)}{v:Value}{vs:List Value}(S:St M h0 h L [(v,1,vs)])(a:vs≠ []): ∃b,v=.slice (some ⟨b,0,some 1⟩) vs.length vs.length/\St M h0 h ((b,.row vs 1)::L) []:=by
 obtain⟨g,k⟩:=S.gown _ (List.mem_singleton.2 rfl)
 rcases g with⟨_,e⟩|⟨b,n,i,j,l⟩
 . exact absurd e a
 . have m:n=vs.length:=by rw [<-show n*1=vs.length from j,Xn]
   subst m
   have d:v=.slice (some ⟨b,0,some 1⟩) vs.length vs.length:=i
   have f:dJ (v,1,vs)=some b:=by rw [d];rfl
   have o:=S.apart
   have p:b∉L.map Prod.fst:=by
    have c:=o
    unfold keys at c
    rw [List.nodup_append]at c
    exact fun q=>c.2.2 b q b (List.mem_filterMap.2 ⟨_,List.mem_singleton.2 rfl,f⟩) rfl
   refine⟨b,d,St.push (St.sub S (List.Sublist.refl _) (List.nil_sublist _)) (k b f) l ?_⟩
   simpa [keys]using p
def kH(N:Nat)(l:Nat->Nat):List Value:=(zO N).map fun v=>.int .i64 (l v:Nat)
theorem wW{N:Nat}{l:Nat->Nat}{v:Nat}(h:v<N):(kH N l)[v]? =some (.int .i64 (l v:Nat)):=iM (F:=fun v=>Value.int .i64 ((l v:Nat):Int)) h
theorem we(N:Nat)(l:Nat->Nat):(kH N l).length=N:=by simp [kH]
theorem vz{N:Nat}{l:Nat->Nat}{v x:Nat}:(kH N l).set v (.int .i64 (x:Nat))=kH N (bT l v x):=by
 have:=iE (N:=N) (k:=v) (F:=fun v=>Value.int .i64 ((l v:Nat):Int)) (F':=fun u=>Value.int .i64 ((bT l v x u:Nat):Int)) (fun u _ a=>by unfold bT;rw [if_neg a])
 unfold kH
 rw [<-this]
 simp [bT]
def Rlx(B:List Arc)(k:Nat)(l:Nat->Nat):Prop:= ∀j,j<k->l (B.getD j default).s<FAR->l (B.getD j default).t<=l (B.getD j default).s+(B.getD j default).w
theorem rlx_all{B:List Arc}{l:Nat->Nat}(h:Rlx B B.length l): ∀a∈B,l a.s<FAR->l a.t<=l a.s+a.w:=by
 intro a c
 obtain⟨i,b,e⟩:=List.mem_iff_getElem.1 c
 have:=h i b
 rwa [Xa,Xb b,Option.getD_some,e]at this
end Go.Ab

end
section
namespace Go.Ab
structure Ev2 where
 kind:Nat
 side:Bool
 id:Nat
 lab:Nat
structure Sd where
 K:Nat->Option Int
 L:Nat->Option Nat
 P:Nat->List Nat
 O:List Nat
structure Bi where
 sd:Bool->Sd
 ev:List Ev2
 dist:Nat
 meet:Nat
def fsB(i:Bool):Arc->Nat:=if i then Arc.t else Arc.s
def ftB(i:Bool):Arc->Nat:=if i then Arc.s else Arc.t
def qB(pi:Nat->Int)(i:Bool)(v:Nat):Int:=if i then-pi v else pi v
def OpB(pi:Nat->Int)(v:Nat):Prop:= -(FAR:Int)<pi v/\pi v<(FAR:Int)
instance (pi:Nat->Int)(v:Nat):Decidable (OpB pi v):=by unfold OpB;infer_instance
def iR(f:Bool->Sd)(i:Bool)(x:Sd):Bool->Sd:=fun j=>if j=i then x else f j
def leO(o:Option Nat)(lab:Nat):Bool:=match o with
 |some w=>decide (w<=lab)
 |none=>false
def meetB(o:Option Nat)(σ:Bi)(v lab:Nat):Bi:=match o with
 |some m=>if lab+m<σ.dist then⟨σ.sd,σ.ev,lab+m,v⟩else σ
 |none=>σ
def gy(pi:Nat->Int)(x:Sd)(i:Bool)(v lab:Nat)(p:List Nat):Sd:=⟨cD x.K v (some (2*lab+qB pi i v)),fun u=>if u=v then some lab else x.L u,kj x.P v p,x.O⟩
def reachB(pi:Nat->Int)(i:Bool)(σ:Bi)(v lab:Nat)(p:List Nat):Bi:=
 if v∈(σ.sd i).O\/ ¬OpB pi v\/leO ((σ.sd i).L v) lab=true then σ else meetB ((σ.sd (!i)).L v) ⟨iR σ.sd i (gy pi (σ.sd i) i v lab p),σ.ev,σ.dist,σ.meet⟩ v lab
theorem re{f:Bool->Sd}{i:Bool}{x:Sd}:iR f i x i=x:=if_pos rfl
theorem updS_not{f:Bool->Sd}{i:Bool}{x:Sd}:iR f i x (!i)=f (!i):=if_neg (by cases i<;>decide)
theorem updS_ne{f:Bool->Sd}{i j:Bool}{x:Sd}(h:j≠i):iR f i x j=f j:=if_neg h
section
variable{A:List Arc}{N:Nat}{al:Nat->Bool}{pi:Nat->Int}{σ:Bi}{rt:Bool->Nat}
structure SvB(A:List Arc)(N r:Nat)(al:Nat->Bool)(pi:Nat->Int)(i:Bool)(x:Sd):Prop where
 nd:x.O.Nodup
 lt: ∀v∈x.O,v<N/\x.L v≠none
 op: ∀v k,x.K v=some k->v∉x.O/\ ∃l,x.L v=some l/\k=2*(l:Int)+qB pi i v
 lab: ∀v l,x.L v=some l->v<N/\OpB pi v/\l<=x.O.length*cG/\(x.P v).length<=x.O.length/\(v∈x.O\/x.K v≠none)
 path: ∀v l,x.L v=some l->(v=r/\x.P v=[]/\l=0)\/ ∃a m,a<A.length/\al a=true/\ftB i (A.getD a default)=v/\fsB i (A.getD a default)∈x.O/\x.P v=a::x.P (fsB i (A.getD a default))/\x.L (fsB i (A.getD a default))=some m/\l=m+(A.getD a default).w
structure BiI(A:List Arc)(N:Nat)(rt:Bool->Nat)(al:Nat->Bool)(pi:Nat->Int)(σ:Bi):Prop where
 sv: ∀i,SvB A N (rt i) al pi i (σ.sd i)
 dm:(σ.dist=FAR/\ ∀i v x,(σ.sd i).L v=some x->(σ.sd (!i)).L v=none)\/(∀i,∃x y,(σ.sd i).L σ.meet=some x/\(σ.sd (!i)).L σ.meet=some y/\σ.dist=x+y)
 le: ∀i v x y,(σ.sd i).L v=some x->(σ.sd (!i)).L v=some y->σ.dist<=x+y
theorem SvB.len{r:Nat}{i:Bool}{x:Sd}(h:SvB A N r al pi i x):x.O.length<=N:=oG N x.O h.nd (fun v a=>(h.lt v a).1)
theorem sI{i j:Bool}(h:j≠i):j= !i:=by cases i<;>cases j<;>first|rfl|exact absurd rfl h
theorem SvB.put{r v lab:Nat}{b:Bool}{x:Sd}{p:List Nat}(h:SvB A N r al pi b x)(D:v∉x.O)(q:OpB pi v)(H:v<N)(b1:lab<=x.O.length*cG)(I:p.length<=x.O.length)
 (g:(v=r/\p=[]/\lab=0)\/ ∃a m,a<A.length/\al a=true/\ftB b (A.getD a default)=v/\fsB b (A.getD a default)∈x.O/\p=a::x.P (fsB b (A.getD a default))/\x.L (fsB b (A.getD a default))=some m/\lab=m+(A.getD a default).w):
 SvB A N r al pi b (gy pi x b v lab p):=by
 have i: ∀{u},u∈x.O->u≠v:=fun j e=>D (e▸j)
 have f: ∀{u},u≠v->(gy pi x b v lab p).L u=x.L u:=fun h=>if_neg h
 have E: ∀{u},u≠v->(gy pi x b v lab p).K u=x.K u:=fun h=>if_neg h
 have n: ∀{u},u≠v->(gy pi x b v lab p).P u=x.P u:=fun h=>if_neg h
 have s:(gy pi x b v lab p).L v=some lab:=if_pos rfl
 have F:(gy pi x b v lab p).K v=some (2*(lab:Int)+qB pi b v):=if_pos rfl
 have G:(gy pi x b v lab p).P v=p:=if_pos rfl
 refine⟨h.nd,fun u j=>⟨(h.lt u j).1,by rw [f (i j)];exact(h.lt u j).2⟩,fun u k o=>?_,fun u l c=>?_,fun u l c=>?_⟩
 . by_cases e:u=v
   . subst e;rw [F]at o;cases o;exact⟨D,lab,s,rfl⟩
   . rw [E e]at o;rw [f e];exact h.op u k o
 . by_cases e:u=v
   . subst e;rw [s]at c;cases c
     exact⟨H,q,b1,by rw [G];exact I,.inr (by rw [F];nofun)⟩
   . rw [f e]at c;rw [E e,n e];exact h.lab u l c
 . by_cases e:u=v
   . subst e;rw [s]at c;cases c
     rw [G]
     rcases g with g|⟨a,m,t,w,y,d,z,B,C⟩
     . exact .inl g
     . exact .inr ⟨a,m,t,w,y,d,by rw [n (i d)];exact z,by rw [f (i d)];exact B,C⟩
   . rw [f e]at c;rw [n e]
     rcases h.path u l c with g|⟨a,m,t,w,y,d,z,B,C⟩
     . exact .inl g
     . exact .inr ⟨a,m,t,w,y,d,by rw [n (i d)];exact z,by rw [f (i d)];exact B,C⟩
theorem BiI.reach {b:Bool} {v lab:Nat} {p:List Nat} (s:N<=12) (h:BiI A N rt al pi σ) (M:v<N) (b1:lab<=(σ.sd b).O.length*cG) (O:p.length<=(σ.sd b).O.length)
 (Q:(v=rt b/\p=[]/\lab=0)\/ ∃a m,a<A.length/\al a=true/\ftB b (A.getD a default)=v/\fsB b (A.getD a default)∈(σ.sd b).O/\p=a::(σ.sd b).P (fsB b (A.getD a default))/\(σ.sd b).L (fsB b (A.getD a default))=some m/\lab=m+(A.getD a default).w):
 BiI A N rt al pi (reachB pi b σ v lab p):=by
 unfold reachB
 split
 . exact h
 . rename_i I
   simp only [not_or,Decidable.not_not]at I
   obtain⟨R,G,hle⟩:=I
   have w: ∀i,SvB A N (rt i) al pi i (iR σ.sd b (gy pi (σ.sd b) b v lab p) i):=fun i=>by
    by_cases e:i=b
    . subst e;rw [re];exact(h.sv i).put R G M b1 O Q
    . rw [updS_ne e];exact h.sv i
   have k: ∀u,(iR σ.sd b (gy pi (σ.sd b) b v lab p) (!b)).L u=(σ.sd (!b)).L u:=fun u=>by rw [updS_not]
   have F:(iR σ.sd b (gy pi (σ.sd b) b v lab p) b).L v=some lab:=by rw [re];exact if_pos rfl
   have r: ∀{u},u≠v->(iR σ.sd b (gy pi (σ.sd b) b v lab p) b).L u=(σ.sd b).L u:=fun {u} e=>by rw [re];exact if_neg e
   -- the smaller facts, for side b and its opposite
   have S:=h.sv b
   have T:=fj
   have X:=lU
   have z: ∀{i u l},(σ.sd i).L u=some l->l<=12*cG:=fun {i u l} U=>by
    have o:=((h.sv i).lab u l U).2.2.1
    have g:=Xs cG (Xg (h.sv i).len s)
    omega
   have J:lab<=12*cG:=by
    have g:=Xs cG (Xg S.len s)
    omega
   have j: ∀{P:Bool->Prop},P b->P (!b)-> ∀i,P i:=fun {P} V W i=>by
    by_cases e:i=b
    . subst e;exact V
    . rw [sI e];exact W
   have n:(!(!b))=b:=by cases b<;>rfl
   cases q:(σ.sd (!b)).L v with
   | none =>
     unfold meetB
     simp only []
     refine⟨w,?_,?_⟩
     . rcases h.dm with⟨K,H⟩|d
       . refine .inl ⟨K,j (P:=fun i=> ∀u x,(iR σ.sd b (gy pi (σ.sd b) b v lab p) i).L u=some x->(iR σ.sd b (gy pi (σ.sd b) b v lab p) (!i)).L u=none) (fun u x c=>?_) (fun u x c=>?_)⟩
         . rw [k]
           by_cases e:u=v
           . subst e;exact q
           . rw [r e]at c;exact H b u x c
         . rw [k]at c
           rw [n]
           by_cases e:u=v
           . subst e;rw [q]at c;cases c
           . rw [r e];have:=H (!b) u x c;rwa [n]at this
       . have B:σ.meet≠v:=fun e=>by
          obtain⟨x,y,_,g,_⟩:=d b
          rw [e,q]at g;cases g
         refine .inr (j (P:=fun i=> ∃x y,(iR σ.sd b (gy pi (σ.sd b) b v lab p) i).L σ.meet=some x/\(iR σ.sd b (gy pi (σ.sd b) b v lab p) (!i)).L σ.meet=some y/\σ.dist=x+y) ?_ ?_)
         . obtain⟨x,y,o,g,t⟩:=d b
           exact⟨x,y,by rw [r B];exact o,by rw [k];exact g,t⟩
         . obtain⟨x,y,o,g,t⟩:=d (!b)
           rw [n]at g
           exact⟨x,y,by rw [k];exact o,by rw [n,r B];exact g,t⟩
     . refine j (P:=fun i=> ∀u x y,(iR σ.sd b (gy pi (σ.sd b) b v lab p) i).L u=some x->(iR σ.sd b (gy pi (σ.sd b) b v lab p) (!i)).L u=some y->σ.dist<=x+y) (fun u x y c f=>?_) (fun u x y c f=>?_)
       . rw [k]at f
         by_cases e:u=v
         . subst e;rw [q]at f;cases f
         . rw [r e]at c;exact h.le b u x y c f
       . rw [k]at c
         rw [n]at f
         by_cases e:u=v
         . subst e;rw [q]at c;cases c
         . rw [r e]at f;exact h.le (!b) u x y c (by rw [n];exact f)
   | some m =>
     have Y:=z q
     have L: ∀{i:Bool} {u x y:Nat},(iR σ.sd b (gy pi (σ.sd b) b v lab p) i).L u=some x->(iR σ.sd b (gy pi (σ.sd b) b v lab p) (!i)).L u=some y->(u=v/\x+y=lab+m)\/(u≠v/\σ.dist<=x+y):=fun {i u x y} c f=>by
      by_cases e:u=v
      . subst e
        refine .inl ⟨rfl,?_⟩
        by_cases C:i=b
        . subst C;rw [F]at c;rw [k,q]at f;cases c;cases f;rfl
        . rw [sI C]at c f
          rw [k,q]at c;rw [n,F]at f;cases c;cases f;exact XO _ _
      . refine .inr ⟨e,?_⟩
        by_cases C:i=b
        . subst C;rw [r e]at c;rw [k]at f;exact h.le i u x y c f
        . rw [sI C]at c f
          rw [k]at c;rw [n,r e]at f
          exact h.le (!b) u x y c (by rw [n];exact f)
     unfold meetB
     simp only []
     split
     . rename_i hlt
       refine⟨w,.inr (j (P:=fun i=> ∃x y,(iR σ.sd b (gy pi (σ.sd b) b v lab p) i).L v=some x/\(iR σ.sd b (gy pi (σ.sd b) b v lab p) (!i)).L v=some y/\lab+m=x+y) ⟨lab,m,F,by rw [k];exact q,rfl⟩ ⟨m,lab,by rw [k];exact q,by rw [n];exact F,XO _ _⟩),fun i u x y c f=>?_⟩
       have hlt:lab+m<σ.dist:=hlt
       show lab+m<=x+y
       rcases L c f with⟨_,h⟩|⟨_,h⟩<;>omega
     . rename_i D
       have D: ¬lab+m<σ.dist:=D
       have E: ∀x,(σ.sd b).L v=some x->lab<x:=fun x c=>by
        rw [c]at hle
        simp only [leO,decide_eq_true_eq]at hle
        omega
       refine⟨w,?_,fun i u x y c f=>?_⟩
       . rcases h.dm with⟨K,H⟩|d
         . omega
         . have B:σ.meet≠v:=fun e=>by
            obtain⟨x,y,o,g,t⟩:=d b
            rw [e]at o g
            rw [q]at g;cases g
            have:=E x o
            omega
           refine .inr (j (P:=fun i=> ∃x y,(iR σ.sd b (gy pi (σ.sd b) b v lab p) i).L σ.meet=some x/\(iR σ.sd b (gy pi (σ.sd b) b v lab p) (!i)).L σ.meet=some y/\σ.dist=x+y) ?_ ?_)
           . obtain⟨x,y,o,g,t⟩:=d b
             exact⟨x,y,by rw [r B];exact o,by rw [k];exact g,t⟩
           . obtain⟨x,y,o,g,t⟩:=d (!b)
             rw [n]at g
             exact⟨x,y,by rw [k];exact o,by rw [n,r B];exact g,t⟩
       . show σ.dist<=x+y
         rcases L c f with⟨_,h⟩|⟨_,h⟩<;>omega
end
end Go.Ab

end
section
namespace Go.Ab
open Go.Proofs
set_option maxRecDepth 10000

theorem fJ.drop1{N:Nat}{l:List Int}(h:fJ N l):fJ N (l.drop 1):=by
 refine⟨by rw [List.length_drop];have:=h.1;omega,fun i b=>?_⟩
 rw [List.length_drop]at b
 have e:(l.drop 1).getD i 0=l.getD (i+1) 0:=by
  rw [Xa,Xa,List.getElem?_drop,XO]
 have:=h.2 (i+1) (by omega)
 rw [e]
 refine⟨this.1,this.2.1,fun a=>this.2.2 ?_⟩
 rw [List.take_drop]at a
 have:=List.mem_of_mem_drop a
 rwa [XO 1 i]at this
def Tryz.FH:=aj t1<|aj t2<|aj t3<|aj t4<|aj t5<|aj t6<|aj Z3<|aj Z4<|aj t9<|aj t10<|aj t11<|t33
theorem pos_first{ks:List Int}{x:Int}: ∀{i:Nat} (a:i<ks.length),ks[i]=x->(∀j (c:j<ks.length),j<i->ks[j]≠x)->pos ks x=some i:=by
 induction ks with
 |nil=>intro i a;simp at a
 | cons y k f=>
   intro i a b d
   cases i with
   |zero=>simp only [List.getElem_cons_zero]at b;unfold pos;rw [if_pos b.symm]
   | succ i=>
     have g:y≠x:=d 0 (by simp) (by omega)
     have:=f (i:=i) (by simpa using a) (by simpa using b) (fun j c h=>by have:=d (j+1) (by simpa using c) (by omega);simpa using this)
     unfold pos
     rw [if_neg (fun e=>g e.symm),this]
     rfl
theorem pos_no{ks:List Int}{x:Int}(a: ∀j (b:j<ks.length),ks[j]≠x):pos ks x=none:=by
 induction ks with
 |nil=>rfl
 | cons y f c=>
   have d:y≠x:=a 0 (by simp)
   unfold pos
   rw [if_neg (fun e=>d e.symm),c (fun j b=>by have:=a (j+1) (by simpa using b);simpa using this)]
   rfl
theorem Av {h0:Hp} (ok:h0.t.Sized h0.n) {v:Value} {l:List Int} (L:au h0 1 (encI .i64) v l) (hl:l.length<1000):
 Ret zM 53 [v] h0 fun r A=>Gr h0 A/\au A 1 (encI .i64) r (norm [] l)/\ ∀c,ar r c->h0.n<=c:=by
 have S:=Si ok
 have fv:=L.fl
 refine ab (n:=46) (rs:=[.tmp 2]) rfl Tryz.e53 rfl rfl rfl (lbt rfl) ?_
 simp only [BS]
 replace S:=(S.nilG (k:=1)).nilG (k:=1)
 refine aN (fun(i:Nat) g h=>i<=l.length/\ ∃(M D:Value) (p ks:List Int),St NoM h0 h [] [(D,1,ints ks),(M,1,ints p)]/\norm [] l=p++norm ks (l.drop i)/\p.length=i/\ks.length<=i/\g 0=v/\g 3=M/\g 4=D/\g 5=.int .i64 i) (fun i=>l.length-i) ?_ 0 _ _ ?_
 . clear S
   intro i X g h ⟨hi,M,D,p,ks,S,hnm,lo,lk,s,B,C,t⟩
   have w:ao .i64 ((i:Int)+1)=((i+1:Nat):Int):=by rw [wrap64]<;>omega
   by_cases hlt:i<l.length
   . have Y:l.drop i=l[i]::l.drop (i+1):=XN hlt
     obtain⟨c0,o0,Q,Z⟩:=L.ix (kd:=.i64) (bG .i64) hlt
     generalize l[i]=x at Y Z
     simp only [BS,LB,Nat.reduceLT,Nat.reduceEqDiff,FH,s,t,L.lenq,aB,hlt]
     refine aN (fun(a:Nat) g A=>A=h/\a<=ks.length/\(∀j (G:j<ks.length),j<a->ks[j]≠x)/\g 0=v/\g 3=M/\g 4=D/\g 5=.int .i64 i/\g 6=.int .i64 a) (fun a=>ks.length-a) ?_ 0 _ _ ?_
     . clear s B C t
       rintro a R g A ⟨rfl,ha,T,s,B,C,t,N⟩
       have wa:ao .i64 ((a:Int)+1)=((a+1:Nat):Int):=by rw [wrap64]<;>omega
       have O:au A 1 (encI .i64) D ks:=(S.gown _ m0).1.sl rfl (fun _=>rfl) (by decide)
       have E:A.load c0 o0 1=some [.int .i64 x]:=S.gr.load Z
       have H: ∀(q:Nat) (z:List Int) (u d:Value) (U:Nat->Value) (F:Hp),q=mL ks x->z=mR ks x->St NoM h0 F [] [(u,1,ints z),(d,1,ints (p++[(q:Int)]))]->norm [] l=(p++[(q:Int)])++norm z (l.drop (i+1)):=fun q z u d U F e1 e2 _=>by
        rw [hnm,Y,norm,<-e1,<-e2,List.append_assoc];rfl
       by_cases y:a<ks.length
       . obtain⟨c1,o1,x1,I⟩:=O.ix (kd:=.i64) (bG .i64) y
         replace I:A.load c1 o1 1=some [.int .i64 ks[a]]:=I
         by_cases P:ks[a]=x
         . simp only [BS]
           refine av (aC rfl) (q:=0) (ps:=[]) (by kernel_rfl) ?_
           have V: ¬(a:Int)=(ks.length:Int):=by omega
           rw [P]at I
           simp only [BS,LB,cls,ac,Nat.reduceLT,Nat.reduceEqDiff,Nat.reduceAdd,Nat.reducePow,Nat.reduceDiv,Nat.reduceMod,Nat.reduceLeDiff,FH,s,B,C,t,N,O.lenq,aB,y,x1,I,Q,E,V]
           refine ae (bH (by exact Tryz.t33.1) (by exact Xq) (by decide) (by rfl)) S ?_;clear S;intro h J S K;simp only [LC,aT,bz,ah,Nat.reduceMul,Nat.reduceAdd,Xr,Xj,Xn,Xv]at S
           simp only [BS,LB,Nat.reduceLT,Nat.reduceEqDiff]
           have ps:=pos_first y P T
           have f:aG h 1 (.slice (some ⟨J,0,none⟩) 1 1)=some (1,ints [(a:Int)]):=by simp only [aG];rw [S.lds (b:=J) (o:=0) (n:=1*1) m0 (lbt rfl)];rfl
           replace S:=S.drop1
           refine dz (S.grow (j:=1) (m:=1) (new:=ints [(a:Int)]) rfl Tryz.t33.1 Xq (by decide) Tryz.t33.2.2.2.2.2 f rfl (by decide) rfl (by rw [bU,bU];simp;omega)) ?_
           clear S f;rintro F d S
           simp only [LC]at S
           rw [<-gV]at S
           simp only [BS,LB,Nat.reduceLT,Nat.reduceEqDiff,t,w]
           refine X (i+1) _ _ (by omega) ⟨by omega,d,D,_,ks,S,H a ks D d g F (by unfold mL;rw [ps]) (by unfold mR;rw [ps]) S,by simp [lo],by omega,by simp [aa,s],by simp [aa],by simp [aa,C],by simp [aa]⟩
         . simp only [BS]
           refine av (aC rfl) (q:=0) (ps:=[]) (by kernel_rfl) ?_
           simp only [BS,LB,cls,Nat.reduceLT,Nat.reduceEqDiff,Nat.reduceAdd,Nat.reducePow,Nat.reduceDiv,Nat.reduceMod,Nat.reduceLeDiff,FH,s,C,t,N,O.lenq,aB,y,x1,I,Q,E,P,wa]
           refine R (a+1) _ _ (by omega) ⟨rfl,by omega,fun j G af=>?_,by simp [aa,s],by simp [aa,B],by simp [aa,C],by simp [aa,t],by simp [aa]⟩
           by_cases e:j=a
           . subst e;exact P
           . exact T j G (by omega)
       . have ea:a=ks.length:=by omega
         subst ea
         have ps:=pos_no (ks:=ks) (x:=x) (fun j G=>T j G G)
         simp only [BS]
         refine av (aC rfl) (q:=0) (ps:=[]) (by kernel_rfl) ?_
         simp only [BS,LB,cls,ac,Nat.reduceLT,Nat.reduceEqDiff,Nat.reduceAdd,Nat.reducePow,Nat.reduceDiv,Nat.reduceMod,Nat.reduceLeDiff,FH,s,B,C,t,N,O.lenq,aB,y,Q,E]
         refine ae (bH (by exact Tryz.t33.1) (by exact Xq) (by decide) (by rfl)) S ?_;clear S;intro h J S K;simp only [LC,aT,bz,ah,Nat.reduceMul,Nat.reduceAdd,Xr,Xj,Xn,Xv]at S
         simp only [BS,LB,Nat.reduceLT,Nat.reduceEqDiff]
         have f:aG h 1 (.slice (some ⟨J,0,none⟩) 1 1)=some (1,ints [x]):=by simp only [aG];rw [S.lds (b:=J) (o:=0) (n:=1*1) m0 (lbt rfl)];rfl
         replace S:=S.drop1
         refine dz (S.grow (j:=0) (m:=1) (new:=ints [x]) rfl Tryz.t33.1 Xq (by decide) Tryz.t33.2.2.2.2.2 f rfl (by decide) rfl (by rw [bU,bU];simp;omega)) ?_
         clear S f;rintro F u S
         simp only [LC]at S
         rw [<-gV]at S
         simp only [BS,LB,Nat.reduceLT,Nat.reduceEqDiff,B,N]
         refine ae (bH (by exact Tryz.t33.1) (by exact Xq) (by decide) (by rfl)) S ?_;clear S;intro h bu S ad;simp only [LC,aT,bz,ah,Nat.reduceMul,Nat.reduceAdd,Xr,Xj,Xn,Xv]at S
         simp only [BS,LB,Nat.reduceLT,Nat.reduceEqDiff]
         have f:aG h 1 (.slice (some ⟨bu,0,none⟩) 1 1)=some (1,ints [((ks.length:Nat):Int)]):=by simp only [aG];rw [S.lds (b:=bu) (o:=0) (n:=1*1) m0 (lbt rfl)];rfl
         replace S:=S.drop1
         refine dz (S.grow (j:=1) (m:=1) (new:=ints [((ks.length:Nat):Int)]) rfl Tryz.t33.1 Xq (by decide) Tryz.t33.2.2.2.2.2 f rfl (by decide) rfl (by rw [bU,bU];simp;omega)) ?_
         clear S f;rintro F d S
         simp only [LC]at S
         rw [<-gV]at S
         simp only [BS,LB,Nat.reduceLT,Nat.reduceEqDiff,t,w]
         refine X (i+1) _ _ (by omega) ⟨by omega,d,u,_,_,S,H ks.length _ u d g F (by unfold mL;rw [ps]) (by unfold mR;rw [ps]) S,by simp [lo],by simp;omega,by simp [aa,s],by simp [aa],by simp [aa],by simp [aa]⟩
     . exact⟨rfl,Xf _,fun j G h=>absurd h (by omega),by simp [aa,s],by simp [aa,B],by simp [aa,C],by simp [aa,t],by simp [aa]⟩
   . have W:i=l.length:=by omega
     simp only [BS,LB,ac,Nat.reduceLT,Nat.reduceEqDiff,FH,s,B,t,L.lenq,aB,hlt]
     rw [W,List.drop_length,norm,XA]at hnm
     rw [hnm]
     exact⟨S.gr,(S.gown _ m1).1.sl rfl (fun _=>rfl) (by decide),fun c hc=>((S.gblk m1 hc).1).elim (fun h=>h) (fun h=>h.elim)⟩
 . exact⟨Xf _,_,_,[],[],S,rfl,rfl,Xk _,by simp [aa,bQ],by simp [aa],by simp [aa],by simp [aa]⟩
end Go.Ab
end
section
namespace Go.Ab
theorem qY{z:Nat}(h:z<256):ao .u8 (z:Int)=(z:Int):=by
 show ao .u8 (.ofNat z)=_
 unfold ao
 simp only [hf,sgn,pw]
 have:Nat.blt z 256=true:=by rw [XX];exact h
 rw [this];rfl
section
variable{E:Env}{t:TypeId}{p q:Operand}{x y i:Nat}
theorem bits8(op:BinOp)(a:x<256)(b:y<256):jY op .u8 (x:Int) (y:Int)=match op with
 | .and=>some (ao .u8 ((X9 x y:Nat):Int))
 | .or=>some (ao .u8 ((Nat.lor x y:Nat):Int))
 | .xor=>some (ao .u8 ((Nat.xor x y:Nat):Int))
 | .andNot=>some (ao .u8 ((Nat.xor x (X9 x y):Nat):Int))
 |_=>none:=by
 show jY op .u8 (.ofNat x) (.ofNat y)=_
 have c:Nat.blt x (pw .u8)=true:=by rw [XX];exact a
 have d:Nat.blt y (pw .u8)=true:=by rw [XX];exact b
 unfold jY
 simp only [c,d,Bool.and_self,cond_true]
 cases op<;>rfl
theorem b_and8(a:x<256)(b:y<256):bw E .and t p q (.int .u8 (x:Int)) (.int .u8 (y:Int))=some (.int .u8 ((x&&& y:Nat):Int)):=by
 show(bif jC .u8 .u8 then(jY .and .u8 (x:Int) (y:Int)).map (Value.int .u8 ·)else none)=_
 rw [bits8 .and a b]
 simp only []
 rw [show X9 x y=x&&& y from rfl,qY (Xx XB a)]
 rfl
theorem b_or8(a:x<256)(b:y<256):bw E .or t p q (.int .u8 (x:Int)) (.int .u8 (y:Int))=some (.int .u8 ((x|||y:Nat):Int)):=by
 show(bif jC .u8 .u8 then(jY .or .u8 (x:Int) (y:Int)).map (Value.int .u8 ·)else none)=_
 rw [bits8 .or a b]
 simp only []
 rw [show Nat.lor x y=x|||y from rfl,qY (Nat.or_lt_two_pow (n:=8) a b)]
 rfl
theorem b_andNot8(a:x<256)(b:y<256):bw E .andNot t p q (.int .u8 (x:Int)) (.int .u8 (y:Int))=some (.int .u8 ((x ^^^(x&&& y):Nat):Int)):=by
 show(bif jC .u8 .u8 then(jY .andNot .u8 (x:Int) (y:Int)).map (Value.int .u8 ·)else none)=_
 rw [bits8 .andNot a b]
 simp only []
 rw [show Nat.xor x (X9 x y)=x ^^^(x&&& y)from rfl,qY (XF (n:=8) a (Xx XB a))]
 rfl
theorem b_shl8{k:IntKind}(a:i<8):bw E .shl t p q (.int .u8 1) (.int k (i:Int))=some (.int .u8 ((2 ^i:Nat):Int)):=by
 have:i=0\/i=1\/i=2\/i=3\/i=4\/i=5\/i=6\/i=7:=by omega
 rcases this with rfl|rfl|rfl|rfl|rfl|rfl|rfl|rfl<;>rfl
end
theorem pow8{i:Nat}(h:i<8):2 ^i<256:=Nat.pow_lt_pow_right (by decide) h
theorem and_pow{x i:Nat}:(x&&& 2 ^i=0)↔x.testBit i=false:=by
 constructor
 . intro h
   have:=congrArg (fun z=>z.testBit i) h
   simpa [XS,XE]using this
 . intro h
   refine Nat.eq_of_testBit_eq fun j=>?_
   rw [XS,XE,Nat.zero_testBit]
   by_cases e:i=j
   . subst e;rw [h];rfl
   . simp [e]
def setB(x i:Nat):Nat:=(x ^^^(x&&& 2 ^i))|||2 ^i
theorem setB_at(x i j:Nat):(setB x i).testBit j=if j=i then true else x.testBit j:=by
 unfold setB
 rw [Nat.testBit_or,Nat.testBit_xor,XS,XE]
 by_cases e:j=i
 . subst e;simp
 . have a: ¬i=j:=fun h=>e h.symm
   simp [e,a]
theorem setB_lt{x i:Nat}(a:x<256)(b:i<8):setB x i<256:=
 Nat.or_lt_two_pow (n:=8) (XF (n:=8) a (Xx XB a)) (pow8 b)
end Go.Ab

end
section
namespace Go.Ab
def swJ(l:List Nat)(j:Nat):List Nat:=(l.set j (l.getD (j-1) 0)).set (j-1) (l.getD j 0)
def bub(key:Nat->Int):Nat->List Nat->List Nat
 |0,l=>l
 |j+1,l=>if key (l.getD j 0)<key (l.getD (j+1) 0)then bub key j (swJ l (j+1))else l
def iP(key:Nat->Int)(k:Nat)(l:List Nat):List Nat:=(zO k).foldl (fun l i=>bub key (i+1) l) l
theorem pq(key:Nat->Int)(k:Nat)(l:List Nat):iP key (k+1) l=bub key (k+1) (iP key k l):=by
 unfold iP;rw [List.range_succ,List.foldl_append];rfl
theorem swJ_len(l:List Nat)(j:Nat):(swJ l j).length=l.length:=by simp [swJ]
theorem xh{l:List Nat}{j:Nat}(h:j<l.length):(swJ l j).Perm l:=by
 have:((l.set j l[j-1]).set (j-1) l[j]).Perm l:=List.set_set_perm h (by omega)
 unfold swJ
 rwa [show l.getD (j-1) 0=l[j-1] by simp [Xa,show j-1<l.length by omega],show l.getD j 0=l[j] by simp [Xa,h]]
theorem yB{key:Nat->Int}: ∀(j:Nat) {l:List Nat},j<l.length->(bub key j l).Perm l
 |0,l,_=>.refl _
 | j+1,l,h=>by
   unfold bub
   split
   . exact(yB j (by rw [swJ_len];omega)).trans (xh h)
   . exact .refl _
theorem py{key:Nat->Int}{l:List Nat}: ∀(k:Nat),k<l.length\/k=0->(iP key k l).Perm l
 |0,_=>.refl _
 | k+1,h=>by
   have a:=py (key:=key) (l:=l) k (by omega)
   rw [pq]
   exact(yB (k+1) (by rw [a.length_eq];omega)).trans a
end Go.Ab

end
section
namespace Go.Ab
open Go.Proofs
set_option maxRecDepth 10000
def Tryz.F03:=aj t1<|aj t2<|aj t3<|aj t4<|aj t5<|aj t6<|aj t33<|t161
def Tryz.F1k:=aj t3<|aj t33<|t161
def Tryz.F1l:=aj t1<|aj t2<|aj t3<|aj t4<|t33
def Tryz.F1m:=aj t1<|aj t2<|aj t3<|aj t33<|t161
def eH(l:List Nat):List Value:=l.map fun(x:Nat)=>.int .i64 x
theorem rq(l:List Nat):l.flatMap bJ=eH l:=by
 unfold eH;rw [XW,List.map_eq_flatMap,XW];rfl
theorem lW(l:List Nat):(eH l).length=l.length:=by simp [eH]
theorem natM_at{l:List Nat}{i:Nat}(h:i<l.length):(eH l)[i]? =some (.int .i64 (l.getD i 0:Nat)):=by
 unfold eH;rw [Xi,Xb h];simp [Xa,h]
theorem yi(l:List Nat)(i x:Nat):(eH l).set i (.int .i64 (x:Nat))=eH (l.set i x):=by unfold eH;rw [List.map_set]
theorem wU{a b:Int}:kP a b<0↔a<b:=by
 unfold kP
 split
 . omega
 . split<;>omega
def CmpF(E:Env)(hq:Hp)(g:FuncId)(post:List Value)(N:Nat)(key:Nat->Int):Prop:= ∀h,Gr hq h-> ∀i j,i<N->j<N->aK E g ([.int .i64 (i:Nat),.int .i64 (j:Nat)]++post) h (.int .i64 (kP (key j) (key i)))
theorem Aj {hq h0:Hp} (z:Gr hq h0) {b N:Nat} {xs:List Nat} {g:FuncId} {post:Array Value} {key:Nat->Int} (p:Row h0 b (eH xs) 1) (R:hq.n<=b) (T:xs.length<=20) (A: ∀x∈xs,x<N) (G:CmpF zM hq g post.toList N key):
 Ret zM 228 [.slice (some ⟨b,0,some 1⟩) xs.length xs.length,.int .i64 0,.int .i64 (xs.length:Nat),.func (.func g) #[] post] h0 fun _ B=>Mo (· =b) h0 B/\Row B b (eH (iP key (xs.length-1) xs)) 1:=by
 have H:=z.ok
 have S:=St.init1 H (o:=.row _ 1) p
 have U:ao .i64 (0+1)=((0+1:Nat):Int):=rfl
 refine ab (n:=53) (rs:=[]) rfl Tryz.e228 rfl rfl rfl (lbt rfl) ?_
 simp only [BS,LB,Nat.reduceLT,Nat.reduceEqDiff,Int.reduceAdd]
 refine aN (fun(i:Nat) a h=>i<=xs.length-1/\St (· =b) h0 h [(b,.row (eH (iP key i xs)) 1)] []/\a 0=.slice (some ⟨b,0,some 1⟩) xs.length xs.length/\a 1=.int .i64 0/\a 2=.int .i64 (xs.length:Nat)/\a 3=.func (.func g) #[] post/\a 8=.int .i64 ((i+1:Nat):Int)) (fun i=>xs.length-i) ?_ 0 _ _ ?_
 . clear S
   intro i C a h ⟨hi,S,r0,r1,r2,r3,r8⟩
   by_cases hlt:i+1<xs.length
   . simp only [BS,LB,Nat.reduceLT,Nat.reduceEqDiff,r2,r8,aB,hlt]
     have r:=py (key:=key) (l:=xs) i (.inl (by omega))
     refine aN (fun(j:Nat) a h=>j<=i+1/\ ∃l,l.Perm xs/\bub key j l=bub key (i+1) (iP key i xs)/\St (· =b) h0 h [(b,.row (eH l) 1)] []/\a 0=.slice (some ⟨b,0,some 1⟩) xs.length xs.length/\a 1=.int .i64 0/\a 2=.int .i64 (xs.length:Nat)/\a 3=.func (.func g) #[] post/\a 8=.int .i64 ((i+1:Nat):Int)/\a 9=.int .i64 (j:Nat)) (fun j=>j) ?_ (i+1) _ _ ?_
     . clear S r0 r1 r2 r3 r8
       intro j s a h ⟨hj,l,pm,hbub,S,r0,r1,r2,r3,r8,r9⟩
       have V:=pm.length_eq
       have D:ao .i64 (((i+1:Nat):Int)+1)=((i+1+1:Nat):Int):=by rw [wrap64]<;>omega
       by_cases I:0<j
       . obtain⟨k,rfl⟩: ∃k,j=k+1:=⟨j-1,by omega⟩
         have E:(0:Int)<((k+1:Nat):Int):=by omega
         have t:ao .i64 (((k+1:Nat):Int)-1)=(k:Int):=by rw [wrap64]<;>omega
         have F:k+1<xs.length:=by omega
         have u:k<xs.length:=by omega
         have d:=(S.row (b:=b) m0).load1 (natM_at (i:=k+1) (by omega))
         have f:=(S.row (b:=b) m0).load1 (natM_at (i:=k) (by omega))
         have J:l.getD (k+1) 0<N:=by
          refine A _ (pm.mem_iff.1 ?_)
          rw [Xa,Xb (by omega)];exact Xh _
         have K:l.getD k 0<N:=by
          refine A _ (pm.mem_iff.1 ?_)
          rw [Xa,Xb (by omega)];exact Xh _
         simp only [BS]
         refine av (aC rfl) (q:=0) (ps:=[]) (by kernel_rfl) ?_
         simp only [BS,LB,cls,Nat.reduceLT,Nat.reduceEqDiff,Nat.reduceAdd,Nat.reducePow,Nat.reduceDiv,Nat.reduceMod,Nat.reduceLeDiff,F03,r0,r1,r3,r9,E,t,F,u,d,f]
         refine cw (G _ (((z.fr (M:=NoM)).trans S.fr (fun c e=>.inr (by omega))).gr) _ _ J K) ?_
         intro h v
         replace S:=S.call v
         by_cases m:key (l.getD k 0)<key (l.getD (k+1) 0)
         . have w:kP (key (l.getD k 0)) (key (l.getD (k+1) 0))<0:=wU.2 m
           replace d:=v.load d
           replace f:=v.load f
           simp only [BS,LB,cls,Nat.reduceLT,Nat.reduceEqDiff,Nat.reduceAdd,Nat.reducePow,Nat.reduceDiv,Nat.reduceMod,Nat.reduceLeDiff,w]
           refine av (aC rfl) (q:=0) (ps:=[]) (by kernel_rfl) ?_
           simp only [BS,LB,cls,Nat.reduceLT,Nat.reduceEqDiff,Nat.reduceAdd,Nat.reducePow,Nat.reduceDiv,Nat.reduceMod,Nat.reduceLeDiff,F03,r0,r9,t,F,u,d,f]
           refine dB (ay S (i:=0) rfl Tryz.t3.2.2.1 aU (by rw [lW];omega) ono) ?_
           clear S;rintro W ⟨S,L⟩
           simp only [LC]at S
           simp only [BS,LB,cls,Nat.reduceLT,Nat.reduceEqDiff,Nat.reduceAdd,Nat.reducePow,Nat.reduceDiv,Nat.reduceMod,Nat.reduceLeDiff,F03,u]
           refine dB (ay S (i:=0) rfl Tryz.t3.2.2.1 aU (by rw [List.length_set,lW];omega) ono) ?_
           clear S;rintro X ⟨S,O⟩
           simp only [LC]at S
           rw [yi,yi]at S
           simp only [BS,LB,Nat.reduceLT,Nat.reduceEqDiff,Nat.reduceAdd,r9,t]
           have e:bub key (k+1) l=bub key k (swJ l (k+1)):=by
            show(if _ then _ else _)=_
            rw [if_pos m]
           exact s k _ _ (by omega) ⟨by omega,swJ l (k+1),(xh (by omega)).trans pm,by rw [<-e];exact hbub,S,by simp [aa,r0],by simp [aa,r1],by simp [aa,r2],by simp [aa,r3],by simp [aa,r8],by simp [aa]⟩
         . have w: ¬kP (key (l.getD k 0)) (key (l.getD (k+1) 0))<0:=fun h=>m (wU.1 h)
           have e:bub key (k+1) l=l:=by
            show(if _ then _ else _)=_
            rw [if_neg m]
           rw [e]at hbub
           simp only [BS,LB,cls,Nat.reduceLT,Nat.reduceEqDiff,Nat.reduceAdd,Nat.reducePow,Nat.reduceDiv,Nat.reduceMod,Nat.reduceLeDiff,r8,w,D]
           exact C (i+1) _ _ (by omega) ⟨by omega,by rw [pq,<-hbub];exact S,by simp [aa,r0],by simp [aa,r1],by simp [aa,r2],by simp [aa,r3],by simp [aa]⟩
       . have P:j=0:=by omega
         subst P
         have y:l=bub key (i+1) (iP key i xs):=hbub
         have E: ¬(0:Int)<((0:Nat):Int):=by omega
         simp only [BS]
         refine av (aC rfl) (q:=0) (ps:=[]) (by kernel_rfl) ?_
         simp only [BS,LB,cls,Nat.reduceLT,Nat.reduceEqDiff,Nat.reduceAdd,Nat.reducePow,Nat.reduceDiv,Nat.reduceMod,Nat.reduceLeDiff,Int.reduceLT,Int.cast_ofNat_Int,r1,r8,r9,D]
         exact C (i+1) _ _ (by omega) ⟨by omega,by rw [pq,<-y];exact S,by simp [aa,r0],by simp [aa,r1],by simp [aa,r2],by simp [aa,r3],by simp [aa]⟩
     . exact⟨Xk _,_,r,rfl,S,by simp [aa,r0],by simp [aa,r1],by simp [aa,r2],by simp [aa,r3],by simp [aa,r8],by simp [aa]⟩
   . simp only [BS,LB,Nat.reduceLT,Nat.reduceEqDiff,r2,r8,aB,hlt]
     have Q:i=xs.length-1:=by omega
     subst Q
     exact⟨S.fr,S.row m0⟩
 . exact⟨Xf _,S,by simp [aa,bQ],by simp [aa,bQ],by simp [aa,bQ],by simp [aa,bQ],by simp [aa];rfl⟩
theorem stable_ok{hq h0:Hp}(c:Gr hq h0){b N:Nat}{xs:List Nat}{g:FuncId}{post:Array Value}{key:Nat->Int}(a:Row h0 b (eH xs) 1)(e:hq.n<=b)(o:xs.length<20)(i: ∀x∈xs,x<N)(j:CmpF zM hq g post.toList N key):
 Ret zM 207 [.slice (some ⟨b,0,some 1⟩) xs.length xs.length,.int .i64 (xs.length:Nat),.func (.func g) #[] post] h0 fun _ d=>Mo (· =b) h0 d/\Row d b (eH (iP key (xs.length-1) xs)) 1:=by
 have k:=c.ok
 have l: ¬(20:Int)<=(xs.length:Int):=by omega
 have m: ¬(20:Int)<(xs.length:Int):=by omega
 have S:=Si k
 refine ab (n:=63) (rs:=[]) rfl Tryz.e207 rfl rfl rfl (lbt rfl) ?_
 simp only [BS,LB,Nat.reduceLT,Nat.reduceEqDiff]
 rw [bW]
 simp only [BS,LB,Nat.reduceLT,Nat.reduceEqDiff,l]
 refine step_ret (Aj c a e (by omega) i j) ?_
 rintro r h ⟨f,R⟩
 simp only [BS]
 rw [bW]
 simp only [BS,LB,Nat.reduceLT,Nat.reduceEqDiff,m]
 exact⟨f,R⟩
theorem wC{hq h0:Hp}(d:Gr hq h0){b N:Nat}{xs:List Nat}{g:FuncId}{post:Array Value}{key:Nat->Int}(a:Row h0 b (eH xs) 1)(e:hq.n<=b)(f:xs.length<20)(i: ∀x∈xs,x<N)(j:CmpF zM hq g post.toList N key):
 Ret zM 152 [.slice (some ⟨b,0,some 1⟩) xs.length xs.length,.func (.func g) #[] post] h0 fun _ c=>Mo (· =b) h0 c/\Row c b (eH (iP key (xs.length-1) xs)) 1:=by
 refine ab (n:=9) (rs:=[]) rfl Tryz.e152 rfl rfl rfl (lbt rfl) ?_
 simp only [BS,LB,Nat.reduceLT,Nat.reduceEqDiff,F1k]
 refine step_ret (stable_ok d a e f i j) ?_
 rintro r h q
 simp only [BS]
 exact q
theorem wY{h0:Hp}(k:h0.t.Sized h0.n){v:Value}{xs:List Nat}(l:au h0 1 bJ v xs)(x:xs.length<1000000)(f:xs≠ []):Ret zM 44 [v] h0 fun r d=>Gr h0 d/\ ∃b,r=.slice (some ⟨b,0,some 1⟩) xs.length xs.length/\Row d b (eH xs) 1/\h0.n<=b:=by
 have S:=Si k
 rcases l with⟨_,rfl⟩|⟨b,o,s,c,rfl,m,p⟩
 . exact absurd rfl f
 . refine ab (n:=8) (rs:=[.tmp 2]) rfl Tryz.e44 rfl rfl rfl (lbt rfl) ?_
   simp only [BS,LB,Nat.reduceLT,Nat.reduceEqDiff,F1l]
   refine ae (bH (by exact Tryz.t33.1) (by exact Xq) (by decide) (by rfl)) S ?_;clear S;intro h y S i;simp only [LC,aT,bz,ah,Nat.reduceMul,Nat.reduceAdd,Xr,Xj,Xn,Xv]at S
   simp only [BS,LB,Nat.reduceLT,Nat.reduceEqDiff]
   have q:=S.fr.n
   refine dz (S.cloneW (enc:=bJ) (ys:=xs) Tryz.t33.1 Xq (by decide) Tryz.t33.2.2.2.2.2 (.inr ⟨b,o,s,c,rfl,m,S.old p (fun h=>h)⟩) du (by decide) (by omega) (S.row m0)) ?_
   rintro d v ⟨t,g,z,u,w⟩
   obtain⟨j,rfl,a⟩:=w f
   simp only [BS,LB,ac,Nat.reduceLT,Nat.reduceEqDiff]
   rw [rq]at a
   exact⟨t.gr,j,rfl,a,(u j rfl).elim (fun e=>by omega) (fun e=>Xg q e)⟩
theorem first_ok{hq h0:Hp}(j:Gr hq h0){N:Nat}{v:Value}{xs:List Nat}{g:FuncId}{post:Array Value}{key:Nat->Int}(u:au h0 1 bJ v xs)(d:xs≠ [])(w:xs.length<20)(y: ∀x∈xs,x<N)(i:CmpF zM hq g post.toList N key){m:Nat}(D:1<=m):
 Ret zM 80 [v,.int .i64 (m:Nat),.func (.func g) #[] post] h0 fun r q=>Gr h0 q/\au q 1 bJ r ((iP key (xs.length-1) xs).take (min m xs.length))/\ ∀c,ar r c->h0.n<=c:=by
 have z:=j.ok
 have A:min (m:Int) (xs.length:Int)=((min m xs.length:Nat):Int):=by omega
 have s:=py (key:=key) (l:=xs) (xs.length-1) (by cases xs with|nil=>exact absurd rfl d|cons a l=>simp)
 have S:=Si z
 refine ab (n:=18) (rs:=[.tmp 6]) rfl Tryz.e80 rfl rfl rfl (lbt rfl) ?_
 simp only [BS,LB,Nat.reduceLT,Nat.reduceEqDiff]
 refine step_ret (wY S.ok u (by omega) d) ?_
 rintro r h ⟨t,b,rfl,k,B⟩
 have o:hq.n<=b:=Xg j.n B
 simp only [BS,LB,Nat.reduceLT,Nat.reduceEqDiff]
 refine step_ret (wC (j.trans t) k o w y i) ?_
 rintro r E ⟨f,R⟩
 have C:=yw (kd:=.i64) (b:=b) (len:=xs.length) (n:=min m xs.length) Tryz.t33.1 Tryz.t3.2.2.1 (cap:=xs.length) (Nat.min_le_right _ _)
 simp only [BS,LB,ac,Nat.reduceLT,Nat.reduceEqDiff,Option.map_some,Option.map_none,F1m,A,C]
 refine⟨((t.fr (M:=NoM)).trans f (fun c e=>.inr (by omega))).gr,?_,fun c i=>by have i:b=c:=i;omega⟩
 have p:((iP key (xs.length-1) xs).take (min m xs.length)).length=min m xs.length:=by rw [List.length_take,s.length_eq];omega
 refine .inr ⟨b,0,some 1,xs.length,by rw [p],by rw [p];exact Nat.min_le_right _ _,?_⟩
 rw [p,R.load (by rw [lW,s.length_eq];omega),rq,List.drop_zero,Xn]
 unfold eH
 rw [List.map_take]
def Tryz.F0C:=aj t1<|aj t2<|aj t3<|aj t4<|aj t5<|aj t6<|aj t22<|aj t67<|Z10
def Tryz.F0D:=aj t1<|aj t4<|aj t5<|t274
def Tryz.F0E:=aj t1<|aj t2<|aj t3<|aj t4<|aj t5<|t274
def i7(n:Nat)(B:Nat->Nat):List Value:=(zO n).map fun j=>.int .u8 (B j:Nat)
theorem yf{n:Nat}{B:Nat->Nat}:(i7 n B).length=n:=by simp [i7]
theorem uG{n j:Nat}{B:Nat->Nat}(h:j<n):(i7 n B)[j]? =some (.int .u8 (B j:Nat)):=iM (F:=fun j=>Value.int .u8 ((B j:Nat):Int)) h
theorem xi{n j x:Nat}{B:Nat->Nat}:(i7 n B).set j (.int .u8 (x:Nat))=i7 n (bT B j x):=by
 have:=iE (N:=n) (k:=j) (F:=fun j=>Value.int .u8 ((B j:Nat):Int)) (F':=fun u=>Value.int .u8 ((bT B j x u:Nat):Int)) (fun i _ a=>by simp [bT,a])
 unfold i7
 rw [<-this];simp [bT]
structure ik(h:Hp)(bp bb rows wide long:Nat)(B:Nat->Nat):Prop where
 r:Row h bp [.int .i64 rows,.int .i64 wide,.int .i64 long,.slice (some ⟨bb,0,none⟩) (rows*long) (rows*long)] 1
 b:Row h bb (i7 (rows*long) B) 1
 lt: ∀j,B j<256
theorem ik.gr{h d:Hp}{e f a b c:Nat}{B:Nat->Nat}(m:ik h e f a b c B)(g:Gr h d):ik d e f a b c B:=⟨m.r.gr g,m.b.gr g,m.lt⟩
theorem ik.bits{h:Hp}{d e a b c:Nat}{B:Nat->Nat}(m:ik h d e a b c B):oE h (ptrTo d) a b true:=.inr ⟨d,_,_,rfl,m.r,rfl⟩
def fK(B:Nat->Nat)(a r i:Nat):Bool:=(B (r*a+i/8)).testBit (i%8)
theorem bitB_set{B:Nat->Nat}{b r i d c:Nat}(g:i/8<b)(j:c/8<b):fK (bT B (r*b+i/8) (setB (B (r*b+i/8)) (i%8))) b d c=if d=r/\c=i then true else fK B b d c:=by
 unfold fK bT
 by_cases e:d*b+c/8=r*b+i/8
 . rw [if_pos e,setB_at]
   have k:d=r:=by
    have a:(d*b+c/8)/b=(r*b+i/8)/b:=by rw [e]
    rw [Nat.mul_comm d,Nat.mul_comm r,Nat.mul_add_div (by omega),Nat.mul_add_div (by omega),Nat.div_eq_of_lt g,Nat.div_eq_of_lt j]at a
    omega
   subst k
   have e8:c/8=i/8:=by omega
   rw [e]
   by_cases f:c%8=i%8
   . rw [if_pos f,if_pos ⟨rfl,by omega⟩]
   . rw [if_neg f,if_neg (fun h=>f (by rw [h.2]))]
 . rw [if_neg e,if_neg (fun h=>e (by rw [h.1,h.2]))]
theorem bmNew_ok{h0:Hp}(u:h0.t.Sized h0.n){a w:Nat}(v:a<=100)(C:w<=1000):Ret zM 113 [.int .i64 (a:Nat),.int .i64 (w:Nat)] h0 fun r k=>Gr h0 k/\ ∃c d,r=ptrTo c/\h0.n<=c/\h0.n<=d/\c≠d/\ik k c d a w ((w+7)/8) (fun _=>0):=by
 have S:=Si u
 have l: ¬((a:Int)<0):=by omega
 have m: ¬((w:Int)<0):=by omega
 have o: ¬((67108864:Int)<(w:Int)):=by omega
 have p:ao .i64 ((w:Int)+8)=(w:Int)+8:=by rw [wrap64]<;>omega
 have q:ao .i64 ((w:Int)+8-1)=((w+7:Nat):Int):=by rw [wrap64]<;>omega
 have g:(w+7)/8<=126:=by omega
 have i:ao .i64 ((((w+7:Nat):Int)).tdiv 8)=(((w+7)/8:Nat):Int):=by
  rw [XJ (by omega),show(((w+7:Nat):Int)/8)=(((w+7)/8:Nat):Int) by omega,wrap64]<;>omega
 generalize D:(w+7)/8=K at g i
 have E:a*K<=100*126:=Nat.mul_le_mul v g
 have s:ao .i64 ((a:Int)*(K:Int))=((a*K:Nat):Int):=by rw [<-Int.natCast_mul,wrap64]<;>omega
 have mk: ∀(n:Nat),aT [Value.int .u8 0] n=i7 n (fun _=>0):=fun n=>by
  rw [mI]
  unfold i7
  rw [XT,List.length_range]
  rfl
 by_cases t:0<(K:Int)
 . have y:(268435456:Int).tdiv (K:Int)=((268435456/K:Nat):Int):=by
    rw [XJ (by decide)];rfl
   have F:268435456/126<=268435456/K:=Nat.div_le_div_left g (by omega)
   have G:268435456/K<=268435456:=Nat.div_le_self _ _
   have H:(268435456/126:Nat)=2130440:=rfl
   have z:ao .i64 ((268435456:Int).tdiv (K:Int))=(268435456:Int).tdiv (K:Int):=by rw [y,wrap64]<;>omega
   have A: ¬((268435456:Int).tdiv (K:Int)<(a:Int)):=by omega
   have B:(K:Int)≠0:=by omega
   refine ab (n:=37) (rs:=[.tmp 4]) rfl Tryz.e113 rfl rfl rfl (lbt rfl) ?_
   simp only [BS,LB,Nat.reduceLT,Nat.reduceEqDiff,l,m,o,p,q,i,z,s,t,A,lj (n:=8) (by decide),lj (n:=(K:Int)) B]
   refine ae (jR (by exact Tryz.t22.1) (by exact Tryz.e5E) (by omega) (by omega)) S ?_;clear S;intro h d S b
   rw [Xe,mk]at S
   simp only [BS,LB,Nat.reduceLT,Nat.reduceEqDiff,Nat.reduceAdd,F0C,Xe]
   refine ae (bg (by intro x e;cases e)) S ?_;clear S;intro h c S f;simp only [ah]at S
   simp only [BS,LB,ac,Nat.reduceLT,Nat.reduceEqDiff]
   have j:=S.apart
   exact⟨S.gr,c,d,rfl,by have:=S.fr.n;omega,b,fun e=>(by subst e;simp [keys]at j),⟨S.row m0,S.row m1,fun _=>Nat.zero_lt_succ _⟩⟩
 . refine ab (n:=37) (rs:=[.tmp 4]) rfl Tryz.e113 rfl rfl rfl (lbt rfl) ?_
   simp only [BS,LB,Nat.reduceLT,Nat.reduceEqDiff,l,m,o,p,q,i,s,t,lj (n:=8) (by decide)]
   refine ae (jR (by exact Tryz.t22.1) (by exact Tryz.e5E) (by omega) (by omega)) S ?_;clear S;intro h d S b
   rw [Xe,mk]at S
   simp only [BS,LB,Nat.reduceLT,Nat.reduceEqDiff,Nat.reduceAdd,F0C,Xe]
   refine ae (bg (by intro x e;cases e)) S ?_;clear S;intro h c S f;simp only [ah]at S
   simp only [BS,LB,ac,Nat.reduceLT,Nat.reduceEqDiff]
   have j:=S.apart
   exact⟨S.gr,c,d,rfl,by have:=S.fr.n;omega,b,fun e=>(by subst e;simp [keys]at j),⟨S.row m0,S.row m1,fun _=>Nat.zero_lt_succ _⟩⟩
theorem get1_ok{h0:Hp}(g:h0.t.Sized h0.n){b j x i:Nat}(l:h0.load b j 1=some [.int .u8 (x:Nat)])(c:x<256)(d:i<8):aK zM 240 [.pointer (some ⟨b,j,none⟩),.int .u8 ((2 ^i:Nat):Int)] h0 (.bool (x.testBit i)):=by
 have S:=Si g
 cases f:x.testBit i with
 | true=>
   have a: ¬(((x&&& 2 ^i:Nat)):Int)=0:=fun e=>by
    have:(x&&& 2 ^i)=0:=by omega
    rw [and_pow,f]at this;cases this
   refine ab (n:=11) (rs:=[.tmp 4]) rfl Tryz.e240 rfl rfl rfl (lbt rfl) ?_
   simp only [BS,LB,ac,Nat.reduceLT,Nat.reduceEqDiff,F0D,l,b_and8 c (pow8 d),a]
   exact S.gr
 | false=>
   have a:(((x&&& 2 ^i:Nat)):Int)=0:=by
    have:=and_pow.2 f
    omega
   refine ab (n:=11) (rs:=[.tmp 4]) rfl Tryz.e240 rfl rfl rfl (lbt rfl) ?_
   simp only [BS,LB,ac,Nat.reduceLT,Nat.reduceEqDiff,F0D,l,b_and8 c (pow8 d),a]
   exact S.gr
theorem set1_ok{h0:Hp}(q:h0.t.Sized h0.n){a d j n i:Nat}{B:Nat->Nat}(R:Row h0 a (i7 n B) 1)(c:j<n)(e:B j<256)(s:i<8)(t:h0.load d 0 1=some [.bool true])(f:d≠a):
 Ret zM 187 [.pointer (some ⟨a,j,none⟩),.int .u8 ((2 ^i:Nat):Int),ptrTo d] h0 fun r l=>Mo (· =a) h0 l/\r=.bool true/\Row l a (i7 n (bT B j (setB (B j) i))) 1:=by
 have S:=St.init1 q (o:=.row (i7 n B) 1) R
 have m:=S.ld (b:=a) (o:=j) m0 (uG c)
 have p:=pow8 s
 have v:(B j ^^^(B j&&& 2 ^i))<256:=XF (n:=8) e (Xx XB e)
 refine ab (n:=19) (rs:=[.tmp 5]) rfl Tryz.e187 rfl rfl rfl (lbt rfl) ?_
 simp only [BS,LB,Nat.reduceLT,Nat.reduceEqDiff,F0E,m,b_andNot8 e p]
 refine az (ay S (i:=0) rfl Tryz.t5.2.2.1 aU (by rw [yf];exact c) ono) ?_
 clear S m;rintro h ⟨S,w⟩
 simp only [LC]at S
 rw [xi]at S
 have g:=S.ld (b:=a) (o:=j) m0 (uG c)
 have x:bT B j (B j ^^^(B j&&& 2 ^i)) j=(B j ^^^(B j&&& 2 ^i)):=by simp [bT]
 rw [x]at g
 have k:=S.old t f
 simp only [BS,LB,Nat.reduceLT,Nat.reduceEqDiff,F0E,k,g,b_or8 v p]
 refine az (ay S (i:=0) rfl Tryz.t5.2.2.1 aU (by rw [yf];exact c) ono) ?_
 clear S g;rintro h ⟨S,w⟩
 simp only [LC]at S
 rw [show(((B j ^^^(B j&&& 2 ^i))|||2 ^i:Nat):Int)=((setB (B j) i:Nat):Int)from rfl,xi]at S
 have y:bT (bT B j (B j ^^^(B j&&& 2 ^i))) j (setB (B j) i)=bT B j (setB (B j) i):=by
  funext u;unfold bT;split<;>rfl
 rw [y]at S
 simp only [BS,LB,ac,Nat.reduceLT,Nat.reduceEqDiff]
 exact⟨S.fr,S.row m0⟩
end Go.Ab
end
section
namespace Go.Ab
open Go.Proofs
set_option maxRecDepth 10000
def Tryz.F0F:=aj t1<|aj t2<|aj t3<|aj t4<|aj t5<|aj t22<|aj t67<|aj Z10<|aj t274<|t275
def Tryz.F0G:=aj t1<|aj t2<|aj t3<|aj t4<|aj t22<|aj t67<|aj t156<|Z10
def Tryz.F04:=aj t1<|aj t2<|aj t3<|aj t4<|aj t9<|aj t22<|aj t33<|aj t67<|aj t201<|Z10
section
variable{h0:Hp}{bp bb rows wide long:Nat}{B:Nat->Nat}
theorem th{r i:Nat}(e:r<rows)(g:i<wide)(a:rows<=100)(b:wide<=1000)(c:long=(wide+7)/8):
 ao .i64 ((r:Int)*(long:Int))=((r*long:Nat):Int)/\ao .i64 ((i:Int).tdiv 8)=((i/8:Nat):Int)/\ao .i64 (((r*long:Nat):Int)+((i/8:Nat):Int))=((r*long+i/8:Nat):Int)/\(i:Int).tmod 8=((i%8:Nat):Int)/\r*long+i/8<rows*long/\i/8<long/\i%8<8:=by
 have f:long<=126:=by omega
 have h:r*long<=100*126:=Nat.mul_le_mul (by omega) f
 have d:i/8<long:=by omega
 have j:r*long+long<=rows*long:=by
  rw [<-Nat.succ_mul];exact Xs _ e
 refine⟨by rw [<-Int.natCast_mul,wrap64]<;>omega,?_,by rw [wrap64]<;>omega,rfl,by omega,d,by omega⟩
 rw [show(i:Int).tdiv 8=((i/8:Nat):Int)from rfl,wrap64]<;>omega
theorem bGet_ok(j:h0.t.Sized h0.n)(m:ik h0 bp bb rows wide long B){r i:Nat}(t:r<rows)(u:i<wide)(b:rows<=100)(c:wide<=1000)(d:long=(wide+7)/8):
 aK zM 226 [ptrTo bp,.int .i64 (r:Nat),.int .i64 (i:Nat)] h0 (.bool (fK B long r i)):=by
 obtain⟨w,x,y,z,k,M,l⟩:=th t u b c d
 have A: ∀{h:Hp},Gr h0 h->aK zM 186 [ptrTo bp,.int .i64 (r:Nat),.int .i64 (i:Nat),.func (.func 240) #[] #[]] h (.bool (fK B long r i)):=by
  intro h g
  have S:=Si g.ok
  have e:=m.gr g
  have C: ¬(r:Int)<0:=by omega
  have D: ¬(rows:Int)<=(r:Int):=by omega
  have E: ¬(i:Int)<0:=by omega
  have F: ¬(wide:Int)<=(i:Int):=by omega
  have G:=e.r.load1 (o:=2) rfl
  have H:=e.r.load1 (o:=3) rfl
  have I:=e.b.load1 (uG k)
  have J:=e.r.lt g.ok
  refine ab (n:=46) (rs:=[.tmp 8]) rfl Tryz.e186 rfl rfl rfl (lbt rfl) ?_
  simp only [BS,LB,Nat.reduceLT,Nat.reduceEqDiff,C]
  refine an (mP S.ok e.bits) ?_;intro N f;replace S:=S.call f
  simp only [BS,LB,Nat.reduceLT,Nat.reduceEqDiff,D,E]
  refine an (ku S.ok (e.gr f).bits) ?_;intro O p;replace S:=S.call p
  have a:=f.trans p
  have K:=a.load G
  have L:=a.load H
  simp only [BS,LB,Nat.reduceLT,Nat.reduceEqDiff,F]
  refine av (aC rfl) (q:=0) (ps:=[]) (by kernel_rfl) ?_
  simp only [BS,LB,cls,Nat.reduceLT,Nat.reduceEqDiff,Nat.reduceAdd,Nat.reducePow,Nat.reduceDiv,Nat.reduceMod,Nat.reduceLeDiff,F0F,K,L,w,x,y,z,k,lj (n:=8) (by decide),mT (n:=8) (by decide),b_shl8 l]
  refine cw (get1_ok S.ok (a.load I) (e.lt _) l) ?_
  intro P s
  have v:=aA s (Xc J a.n)
  replace S:=S.call s
  simp only [BS,LB,cls,ac,Nat.reduceLT,Nat.reduceEqDiff,Nat.reduceAdd,Nat.reducePow,Nat.reduceDiv,Nat.reduceMod,Nat.reduceLeDiff]
  exact⟨rfl,S.gr⟩
 have S:=Si j
 refine ab (n:=11) (rs:=[.tmp 6]) rfl Tryz.e226 rfl rfl rfl (lbt rfl) ?_
 simp only [BS,LB,Nat.reduceLT,Nat.reduceEqDiff]
 refine an (A (Gr.refl j)) ?_
 intro h g
 simp only [BS,LB,ac,Nat.reduceLT,Nat.reduceEqDiff]
 exact g
theorem bSet_ok(x:h0.t.Sized h0.n)(m:ik h0 bp bb rows wide long B)(l:bp≠bb){r i:Nat}(E:r<rows)(F:i<wide)(b:rows<=100)(d:wide<=1000)(e:long=(wide+7)/8):
 Ret zM 117 [ptrTo bp,.int .i64 (r:Nat),.int .i64 (i:Nat),.bool true] h0 fun v p=>Mo (· =bb) h0 p/\v=.bool true/\ik p bp bb rows wide long (bT B (r*long+i/8) (setB (B (r*long+i/8)) (i%8))):=by
 obtain⟨G,H,I,J,y,n6,t⟩:=th E F b d e
 have K: ∀{h:Hp} {s:Nat},Gr h0 h->h.load s 0 1=some [.bool true]->s≠bb->Ret zM 186 [ptrTo bp,.int .i64 (r:Nat),.int .i64 (i:Nat),.func (.func 187) #[] #[ptrTo s]] h fun v p=>Mo (· =bb) h p/\v=.bool true/\Row p bb (i7 (rows*long) (bT B (r*long+i/8) (setB (B (r*long+i/8)) (i%8)))) 1:=by
  intro h s g L N
  have S:=Si g.ok
  have k:=m.gr g
  have O: ¬(r:Int)<0:=by omega
  have P: ¬(rows:Int)<=(r:Int):=by omega
  have Q: ¬(i:Int)<0:=by omega
  have T: ¬(wide:Int)<=(i:Int):=by omega
  have U:=k.r.load1 (o:=2) rfl
  have V:=k.r.load1 (o:=3) rfl
  have W:=k.r.lt g.ok
  refine ab (n:=46) (rs:=[.tmp 8]) rfl Tryz.e186 rfl rfl rfl (lbt rfl) ?_
  simp only [BS,LB,Nat.reduceLT,Nat.reduceEqDiff,O]
  refine an (mP S.ok k.bits) ?_;intro h1 u;replace S:=S.call u
  simp only [BS,LB,Nat.reduceLT,Nat.reduceEqDiff,P,Q]
  refine an (ku S.ok (k.gr u).bits) ?_;intro X z;replace S:=S.call z
  have a:=u.trans z
  have Y:=a.load U
  have Z:=a.load V
  simp only [BS,LB,Nat.reduceLT,Nat.reduceEqDiff,T]
  refine av (aC rfl) (q:=0) (ps:=[]) (by kernel_rfl) ?_
  simp only [BS,LB,cls,Nat.reduceLT,Nat.reduceEqDiff,Nat.reduceAdd,Nat.reducePow,Nat.reduceDiv,Nat.reduceMod,Nat.reduceLeDiff,F0F,Y,Z,G,H,I,J,y,lj (n:=8) (by decide),mT (n:=8) (by decide),b_shl8 t]
  refine dp (set1_ok S.ok (k.b.gr a) y (k.lt _) t (a.load L) N) ?_
  rintro v h3 ⟨A,rfl,R3⟩
  have vv:leaves X h3 bp=true:=pj (A.get bp (Xc W a.n) l)
  simp only [BS,LB,cls,ac,Nat.reduceLT,Nat.reduceEqDiff,Nat.reduceAdd,Nat.reducePow,Nat.reduceDiv,Nat.reduceMod,Nat.reduceLeDiff]
  exact⟨(a.fr (M:=(· =bb))).trans A (fun c w=>.inl w),R3⟩
 have S:=Si x
 have zb:=m.b.lt x
 refine ab (n:=14) (rs:=[.tmp 8]) rfl Tryz.e117 rfl rfl rfl (lbt rfl) ?_
 simp only [BS,Nat.reduceLT]
 refine ae (bF (by exact mq)) S ?_;clear S;intro h s S C
 simp only [BS,LB,Nat.reduceLT,Nat.reduceEqDiff]
 have k7:=S.fr.n
 refine step_ret (K S.gr (S.ld m0 rfl) (by omega)) ?_
 rintro v h ⟨f,rfl,R⟩
 simp only [BS,LB,ac,Nat.reduceLT,Nat.reduceEqDiff]
 have D:Mo (· =bb) h0 h:=(S.gr.fr (M:=(· =bb))).trans f (fun c w=>.inl w)
 refine⟨D,D.has (o:=.row _ 1) m.r l,R,fun j=>?_⟩
 unfold bT
 split
 . exact setB_lt (m.lt _) t
 . exact m.lt _
end
theorem jf{n:Nat}{f:Nat->Bool}:(zO (n+1)).filter f=(zO n).filter f++if f n=true then [n]else []:=by
 rw [List.range_succ,List.filter_append]
 congr 1
 by_cases h:f n=true
 . simp [h]
 . simp [h]
theorem q8{f:Nat->Bool}{i:Nat}(h:f i=true): ∀n,i<n->((zO n).filter f)[((zO i).filter f).length]? =some i:=by
 intro n
 induction n with
 |zero=>intro a;omega
 | succ n b=>
   intro a
   rw [jf]
   by_cases c:i<n
   . have:=b c
     rw [Xm (List.getElem?_eq_some_iff.1 this).1];exact this
   . have:i=n:=by omega
     subst this
     rw [Xu (Xk _),if_pos h]
     simp
theorem pF{n:Nat}{f:Nat->Bool}:((zO n).filter f).length<=n:=by
 have:=List.length_filter_le f (zO n)
 rwa [List.length_range]at this
theorem bOn_ok{h0:Hp}(g:h0.t.Sized h0.n){f r:Nat}:Ret zM 197 [ptrTo f,.int .i64 (r:Nat)] h0 fun v e=>Gr h0 e/\ ∃a b,v=.func (.func 225) #[] #[ptrTo a,ptrTo b]/\h0.n<=a/\h0.n<=b/\e.load a 0 1=some [ptrTo f]/\e.load b 0 1=some [.int .i64 (r:Nat)]:=by
 have S:=Si g
 refine ab (n:=6) (rs:=[.tmp 4]) rfl Tryz.e197 rfl rfl rfl (lbt rfl) ?_
 simp only [BS,Nat.reduceLT]
 refine ae (bF (by exact cI)) S ?_;clear S;intro h a S c
 simp only [BS,Nat.reduceLT,Nat.reduceEqDiff,if_false]
 refine ae (bF (by exact aU)) S ?_;clear S;intro h b S d
 simp only [BS,LB,ac,Nat.reduceLT,Nat.reduceEqDiff]
 exact⟨S.gr,a,b,rfl,c,d,S.ld m1 rfl,S.ld m0 rfl⟩
section
variable{h0:Hp}{bp bb rows wide long:Nat}{B:Nat->Nat}
theorem ik.its{D:Nat->Prop}{h:Hp}{F:List Nat}(s:ItS h0 D h F)(a:h0.t.Sized h0.n)(m:ik h0 bp bb rows wide long B)(b:D bp)(c:D bb):ik h bp bb rows wide long B:=
 ⟨Row.of_get (s.data bp (m.r.lt a) b) m.r,Row.of_get (s.data bb (m.b.lt a) c) m.b,m.lt⟩
theorem on1_it (b:h0.t.Sized h0.n) (m:ik h0 bp bb rows wide long B) {r:Nat} (D:r<rows) (d:rows<=100) (e:wide<=1000) (f:long=(wide+7)/8) {k l:Nat} (y:h0.load k 0 1=some [ptrTo bp]) (E:h0.load l 0 1=some [.int .i64 (r:Nat)]):
 lE zM 225 [] [ptrTo k,ptrTo l] h0 (fun c=>c=k\/c=l\/c=bp\/c=bb) (((zO wide).filter (fK B long r)).map fun(i:Nat)=>[.int .i64 (i:Nat)]):=by
 intro G J Z H Y h F s g
 have o:=s.load b y (.inl rfl)
 refine enter (n:=21) (rs:=[]) rfl Tryz.e225 rfl rfl rfl (lbt rfl) ?_
 simp only [BS,LB,Nat.reduceLT,F0G,o]
 refine an (ku s.ok (m.its s b (.inr (.inr (.inl rfl))) (.inr (.inr (.inr rfl)))).bits) ?_
 intro O q
 have z:=s.gr q
 have A:=Y.gr _ _ _ _ g q
 simp only [BS]
 refine aN (fun(i:Nat) j h=>i<=wide/\ ∃F,ItS h0 (fun c=>c=k\/c=l\/c=bp\/c=bb) h F/\J ((zO i).filter (fK B long r)).length h F/\j 0=.func (.yield G) #[] #[]/\j 1=ptrTo k/\j 2=ptrTo l/\j 6=.int .i64 (wide:Nat)/\j 7=.int .i64 i) (fun i=>wide-i) ?_ 0 _ _ ?_
 . clear o s g z A F q h
   intro i C j h ⟨hi,F,s,g,r0,r1,r2,r6,r7⟩
   have w:ao .i64 ((i:Int)+1)=((i+1:Nat):Int):=by rw [wrap64]<;>omega
   by_cases hlt:i<wide
   . have o:=s.load b y (.inl rfl)
     have I:=s.load b E (.inr (.inl rfl))
     have K:=m.its s b (.inr (.inr (.inl rfl))) (.inr (.inr (.inr rfl)))
     simp only [BS,LB,Nat.reduceLT,Nat.reduceEqDiff,F0G,r1,r2,r6,r7,aB,hlt,o,I]
     refine an (bGet_ok s.ok K D hlt d e f) ?_
     intro P p
     cases t:fK B long r i with
     | true=>
       have L:(((zO wide).filter (fK B long r)).map fun(i:Nat)=>[Value.int .i64 (i:Nat)])[((zO i).filter (fK B long r)).length]? =some [.int .i64 (i:Nat)]:=by
        rw [Xi,q8 t _ hlt];rfl
       have u:((zO (i+1)).filter (fK B long r)).length=((zO i).filter (fK B long r)).length+1:=by rw [jf,if_pos t];simp
       simp only [BS,LB,Nat.reduceLT,Nat.reduceEqDiff,r0]
       refine cy Y (s.gr p) (Y.gr _ _ _ _ g p) (i:=((zO i).filter (fK B long r)).length) L ?_ ?_ ?_
       . intro x M a N _ _
         simp only [BS,LB,Nat.reduceLT,Nat.reduceEqDiff,r7,w]
         exact C (i+1) _ _ (by omega) ⟨by omega,M,N,by rw [u];exact a,by simp [aa,r0],by simp [aa,r1,ag],by simp [aa,r2,ag],by simp [aa,r6],by simp [aa]⟩
       . intro x a _
         simp only [BS,LB,Nat.reduceLT,Nat.reduceEqDiff]
         exact fk rfl ⟨rfl,.inr (.inl ⟨_,rfl,a⟩)⟩
       . intro v x a
         exact absurd a (H v x)
     | false=>
       have u:(zO (i+1)).filter (fK B long r)=(zO i).filter (fK B long r):=by rw [jf,if_neg (by rw [t];decide)];simp
       simp only [BS,LB,Nat.reduceLT,Nat.reduceEqDiff,r7,w]
       exact C (i+1) _ _ (by omega) ⟨by omega,F,s.gr p,by rw [u];exact Y.gr _ _ _ _ g p,by simp [aa,r0],by simp [aa,r1,ag],by simp [aa,r2,ag],by simp [aa,r6],by simp [aa]⟩
   . simp only [BS,LB,Nat.reduceLT,r6,r7,aB,hlt]
     have:i=wide:=by omega
     subst this
     exact bO (cB ⟨rfl,_,rfl,rfl,.inl ⟨_,F,rfl,by simpa using g⟩⟩)
 . exact⟨Xf _,F,z,A,by simp [aa,bQ],by simp [aa,bQ,ag],by simp [aa,bQ,ag],by simp [aa],by simp [aa]⟩
theorem bRow_ok(H:h0.t.Sized h0.n)(m:ik h0 bp bb rows wide long B){r:Nat}(hr:r<rows)(s:rows<=100)(d:wide<=1000)(t:long=(wide+7)/8):
 Ret zM 133 [ptrTo bp,.int .i64 (r:Nat)] h0 fun v w=>Gr h0 w/\au w 1 bJ v ((zO wide).filter (fK B long r))/\ ∀c,ar v c->h0.n<=c:=by
 have S:=Si H
 refine ab (n:=15) (rs:=[.cell 4 33]) rfl Tryz.e133 rfl rfl rfl (lbt rfl) ?_
 simp only [BS,F04]
 refine ae ax S ?_;clear S;intro h p S R
 simp only [BS,LB,Nat.reduceLT,Nat.reduceEqDiff]
 have k4:=(S.row (b:=p) m0).lt S.ok
 refine step_ret (bOn_ok S.ok) ?_
 rintro v U ⟨g,b2,b3,rfl,n2,n3,y2,y3⟩
 have I:=m.gr (S.gr.trans g)
 replace S:=S.call g
 have V:=on1_it S.ok I hr s d t y2 y3
 have zp:=I.r.lt S.ok
 have zb:=I.b.lt S.ok
 have wp:=m.r.lt H
 have wb:=m.b.lt H
 generalize J:(zO wide).filter (fK B long r)=f at V
 have af:f.length<=1000:=by rw [<-J];exact Xg pF d
 simp only [BS]
 replace S:=S.nilG (k:=1)
 refine fu S (g:=225) (a:=#[]) (b:=#[ptrTo b2,ptrTo b3]) (by simp [bS,aa,ag]) rfl rfl ?_
 intro K G u A M N W
 obtain⟨X,Y,A⟩: ∃X:d9,X=_/\St NoM h0 K [(u,.loop X),(G,.dfr),(p,.row [.slice none 0 0] 1)] [(.slice none 0 0,1,[])]:=⟨_,rfl,A⟩
 have hJ:Yld zM u (fun k w F=> ∃(l:Value),St NoM h0 w [(u,.loop X),(G,.dfr),(p,.row [l] 1)] [(l,1,eH (f.take k))]/\k<=f.length/\F=keys [(u,.loop X),(G,.dfr),(p,.row [l] 1)] [(l,1,eH (f.take k))]/\(∀c∈F,U.n<=c\/c=p)) (fun _ _=>False) (f.map fun(i:Nat)=>[.int .i64 (i:Nat)]):=by
  refine⟨?_,?_,fun _ _ h=>h.elim,?_⟩
  . rintro i h F ⟨l,S,_,rfl,_⟩;exact⟨S.ok,fun b q=>S.key_lt q⟩
  . rintro i h F w ⟨l,S,a,rfl,c⟩ gg;exact⟨l,S.call gg,a,rfl,c⟩
  . rintro i x hR F O ⟨l,S,a,rfl,Z⟩
    have C:i<f.length:=by
     have:=(List.getElem?_eq_some_iff.1 O).1
     simpa using this
    rw [Xi,Xb C]at O
    cases O
    have tk:eH (f.take (i+1))=eH (f.take i)++[.int .i64 (f[i]:Nat)]:=by
     rw [Xd C]
     unfold eH
     rw [XU];rfl
    have tl:(eH (f.take i)).length<=i:=by rw [lW,List.length_take];omega
    generalize f[i]=x at tk
    have ai:Fl l:=(S.gown _ m0).1.fl
    subst Y
    refine fH (S.get m0) (by rw [Tryz.e133];rfl) rfl ?_
    have S0:=S
    have kR:=S.fr.n
    have lim:U.n<=hR.n:=by
     have h1:=Z u (by simp [keys])
     have K:=S.key_lt (b:=u) (by simp [keys])
     omega
    replace S:=S.base
    simp only [BS,LB,Nat.reduceLT,Nat.reduceEqDiff]
    refine eI S (i:=0) rfl rfl rfl rfl rfl ?_
    clear S;intro h S
    simp only [LC]at S
    simp only [BS,LB,Nat.reduceLT,Nat.reduceEqDiff,F04,S.ld (b:=p) (o:=0) m2 rfl]
    refine ae (bH (by exact Tryz.t33.1) (by exact Xq) (by decide) (by rfl)) S ?_;clear S;intro h bs S ad;simp only [LC,aT,bz,ah,Nat.reduceMul,Nat.reduceAdd,Xr,Xj,Xn,Xv]at S
    simp only [BS,LB,Nat.reduceLT,Nat.reduceEqDiff]
    have D:aG h 1 (.slice (some ⟨bs,0,none⟩) 1 1)=some (1,[.int .i64 (x:Nat)]):=by simp only [aG];rw [S.lds (b:=bs) (o:=0) (n:=1*1) m0 (lbt rfl)];rfl
    replace S:=S.drop1
    refine dz (S.grow (j:=0) (m:=1) (new:=[.int .i64 (x:Nat)]) rfl Tryz.t33.1 Xq (by decide) Tryz.t33.2.2.2.2.2 D rfl (by decide) rfl (by rw [lW];simp;omega)) ?_
    clear S D;rintro h E S
    simp only [LC]at S
    have P:Fl E:=(S.gown _ m0).1.fl
    simp only [BS,LB,Nat.reduceLT,Nat.reduceEqDiff]
    refine az (ay S (i:=2) rfl Tryz.t33.2.2.1 P (Xl (lbt rfl)) ono) ?_
    clear S;rintro h ⟨S,_⟩
    simp only [LC]at S
    simp only [BS]
    refine dl S (i:=0) rfl ?_
    clear S;intro h S
    simp only [LC]at S
    rw [<-tk]at S
    refine .inl ⟨rfl,_,⟨E,S0.rebase S,by omega,rfl,fun c z=>?_⟩,S.fr,S.key_new⟩
    rcases S.key_new c z with h|h
    . exact Z c h
    . exact .inl (by omega)
 refine ef (V u _ _ (fun _ _ h=>h) hJ K _ ?_ ⟨_,A,Xf _,rfl,fun c z=>?_⟩) fun o rc w y=>iA y ?_
 . refine⟨A.ok,W.n,fun b q _=>W.get b q,fun b q h=>?_,fun b q=>A.key_lt q⟩
   simp only [keys,X2,X8,X5,dJ,XG,XA,XK,Xt,or_false]at q
   rcases q with rfl|rfl|rfl
   . omega
   . omega
   . rcases h.2 with e|e|e|e<;>omega
 . simp only [keys,X2,X8,X5,dJ,XG,XA,XK,Xt,or_false]at z
   rcases z with rfl|rfl|rfl
   . exact .inl N
   . exact .inl M
   . exact .inr rfl
 . rintro F ⟨l,T,b,rfl,_⟩
   rw [XC,Xo]at T
   subst Y
   refine⟨_,T.get m0,XV,?_⟩
   replace T:=T.dead
   have S:=T
   show Run _ _ _ _ _ _ _ _
   simp only [BS,LB,Nat.reduceLT,Nat.reduceEqDiff,F04,S.ld (b:=p) (o:=0) m1 rfl]
   have P:Fl l:=(T.gown _ m0).1.fl
   clear S
   refine az (ay T (i:=1) rfl Tryz.t33.2.2.1 P (Xl (lbt rfl)) ono) ?_
   clear T;rintro h3 ⟨T,_⟩
   simp only [XH,List.set_cons_succ]at T
   simp only [BS]
   refine df (eQ [G] _ (L:=[(p,_)]) T.base fun h4 Q=>?_)
   refine⟨rfl,(cK (by decide) (by simp only [aJ,ag,Nat.reduceEqDiff,reduceIte];exact gu Tryz.t33.2.1 (Q.ld (b:=p) (o:=0) m0 rfl))).2 (dD.2 ⟨(T.rebase Q).gr,(Q.gown _ m0).1.sl (rq _).symm du (by decide),fun c z=>?_⟩)⟩
   rcases(T.gblk m0 z).1 with h|h
   . exact h
   . exact h.elim
end
end Go.Ab

end
section
namespace Go.Ab
open Go.Proofs
set_option maxRecDepth 10000
def Tryz.F05:=aj t1<|aj t2<|aj t3<|aj t4<|aj t5<|aj t6<|aj t24<|t253
theorem Ak{h0:Hp}(q:h0.t.Sized h0.n){v:Value}{a b:Int}(c:au h0 1 (encI .i64) v [a,b]):aK zM 250 [.func (.func 169) #[] #[],v] h0 (.int .i64 (wy (wy (wy a)+wy b))):=by
 have S:=Si q
 have k:=wy_bd a
 have x:=wy_bd b
 have y:=wy_bd (wy a)
 have r:ao .i64 1=1:=rfl
 have s:ao .i64 2=2:=rfl
 have t:ao .i64 (wy a)=wy a:=by rw [wrap64]<;>omega
 have u:wy (wy a)=wy a:=wy_id k.1 k.2
 have w:ao .i64 (wy a+wy b)=wy a+wy b:=by rw [wrap64]<;>omega
 refine ab (n:=22) (rs:=[.tmp 4]) rfl Tryz.e250 rfl rfl rfl (lbt rfl) ?_
 simp only [BS,LB,Nat.reduceLT,Nat.reduceEqDiff,Nat.reduceAdd,Int.cast_ofNat_Int,F05,c.lenq]
 rw [bW]
 obtain⟨l,m,d,e⟩:=c.ix (kd:=.i64) (bG .i64) (i:=0) (by simp)
 replace d:lM (some 1) v (.int .i64 0)=some (.pointer (some ⟨l,m,none⟩)):=d
 replace e:h0.load l m 1=some [.int .i64 a]:=e
 simp only [BS,LB,Nat.reduceLT,Nat.reduceEqDiff,Int.reduceLT,F05,d,e]
 refine an (mV S.ok) ?_;intro h g;replace S:=S.call g;clear g
 simp only [BS,LB,Nat.reduceLT,Nat.reduceEqDiff,t,Int.zero_add]
 refine an (mV S.ok) ?_;intro h g;replace S:=S.call g;clear g
 simp only [BS,LB,Nat.reduceLT,Nat.reduceEqDiff,r,u,Int.zero_add]
 rw [bW]
 obtain⟨o,p,f,j⟩:=(c.gr S.gr).ix (kd:=.i64) (bG .i64) (i:=1) (by simp)
 replace f:lM (some 1) v (.int .i64 1)=some (.pointer (some ⟨o,p,none⟩)):=f
 replace j:h.load o p 1=some [.int .i64 b]:=j
 simp only [BS,LB,Nat.reduceLT,Nat.reduceEqDiff,Int.reduceLT,F05,f,j]
 refine an (mV S.ok) ?_;intro h g;replace S:=S.call g;clear g
 simp only [BS,LB,Nat.reduceLT,Nat.reduceEqDiff,w]
 refine an (mV S.ok) ?_;intro h g;replace S:=S.call g;clear g
 simp only [BS,LB,Nat.reduceLT,Nat.reduceEqDiff,Int.reduceAdd,s]
 rw [bW]
 simp only [BS,LB,ac,Nat.reduceLT,Nat.reduceEqDiff,Int.reduceLT]
 exact S.gr
theorem add_ok{h0:Hp}(e:h0.t.Sized h0.n){a b:Int}:aK zM 247 [.int .i64 a,.int .i64 b] h0 (.int .i64 (wy (wy (wy a)+wy b))):=by
 have S:=Si e
 refine ab (n:=9) (rs:=[.tmp 4]) rfl Tryz.e247 rfl rfl rfl (lbt rfl) ?_
 simp only [BS,LB,Nat.reduceLT,Nat.reduceEqDiff]
 refine ae (bH (by exact Tryz.t24.1) (by exact Tryz.e2E) (by decide) (by rfl)) S ?_;clear S;intro h c S d;simp only [LC,aT,bz,ah,Nat.reduceMul,Nat.reduceAdd,Xr,Xj,Xn,Xv]at S
 simp only [BS,LB,Nat.reduceLT,Nat.reduceEqDiff]
 refine an (Ak S.ok (a:=a) (b:=b) (.inr ⟨c,0,none,2,rfl,Xk _,S.lds (b:=c) (o:=0) (n:=2*1) m0 (lbt rfl)⟩)) ?_;intro h g;replace S:=S.call g;clear g
 simp only [BS,LB,ac,Nat.reduceLT,Nat.reduceEqDiff]
 exact S.gr
def Tryz.F1n:=aj t1<|aj t2<|aj t3<|aj t4<|aj t33<|aj t66<|Z6
def Tryz.F06:=aj t1<|aj t2<|aj t3<|aj t4<|aj Z0<|aj t32<|aj t33<|aj t66<|aj Z2<|aj t149<|aj Z1<|Z6
structure fm(h:Hp)(nb:Nat)(p:Value)(N:Nat)(m:List Int)(c:Nat->Nat):Prop where
 at0:j7 h nb p m
 len:m.length=N
 val: ∀v,v<N->m.getD v 0=(c v:Int)
theorem fm.gr{h a:Hp}{b N:Nat}{p:Value}{m:List Int}{c:Nat->Nat}(x:fm h b p N m c)(g:Gr h a):fm a b p N m c:=⟨x.at0.gr g,x.len,x.val⟩
theorem fm.keep{h a:Hp}{d N:Nat}{p:Value}{m:List Int}{c:Nat->Nat}(e:h.t.Sized h.n)(x:fm h d p N m c)(g:dT h a):fm a d p N m c:=by
 obtain⟨b,v,rfl,r,s,f,i⟩:=x.at0
 exact⟨⟨b,v,rfl,g.row e r,s.keep e g,f,i⟩,x.len,x.val⟩
theorem qR{h0:Hp}(e:h0.t.Sized h0.n){f N:Nat}{p:Value}{m:List Int}{c:Nat->Nat}(x:fm h0 f p N m c){v:Nat}(g:v<N):aK zM 61 [p,.int .i64 (v:Nat)] h0 (.int .i64 (c v:Nat)):=by
 have S:=Si e
 obtain⟨b,t,rfl,r,s,_,_⟩:=x.at0
 have h:=r.load1 (o:=0) rfl
 have u:=x.len
 have j: ¬(v:Int)<0:=by omega
 have k: ¬(m.length:Int)<=(v:Int):=by omega
 obtain⟨d,o,l,a⟩:=s.ix (kd:=.i64) (bG .i64) (i:=v) (by omega)
 have q:m[v]'(by omega)=(c v:Int):=by
  rw [<-x.val v g,Xa,Xb (by omega)];rfl
 rw [q]at a
 replace a:h0.load d o 1=some [.int .i64 (c v:Nat)]:=a
 refine ab (n:=27) (rs:=[.tmp 4]) rfl Tryz.e61 rfl rfl rfl (lbt rfl) ?_
 simp only [BS,LB,ac,Nat.reduceLT,Nat.reduceEqDiff,F1n,j,h,s.lenq,k,l,a]
 exact S.gr
theorem inside_ok{h0:Hp}(z:h0.t.Sized h0.n){B C q N:Nat}{p:Value}{d:Gra}{m:List Int}{c:Nat->Nat}(j:Good d)(D:aR h0 B (ptrTo q) d)(x:fm h0 C p d.nodes m c){k a:Nat}(l:a<d.arcs.length):
 aK zM 182 [ptrTo q,p,.int .i64 (k:Nat),.int .i64 (a:Nat)] h0 (.bool (decide (c (d.arcs.getD a default).s=k/\c (d.arcs.getD a default).t=k))):=by
 have S:=Si z
 have J:Fl p:=by obtain⟨b,_,rfl,_⟩:=x.at0;exact cI
 have r:d.arcs[a]=d.arcs.getD a default:=by simp [Xa,l]
 have E:d.arcs.getD a default∈d.arcs:=by rw [<-r];exact Xh l
 obtain⟨s,t,_⟩:=j.arcs _ E
 refine ab (n:=34) (rs:=[.tmp 8]) rfl Tryz.e182 rfl rfl rfl (lbt rfl) ?_
 simp only [BS,LB,Nat.reduceLT,Nat.reduceEqDiff]
 refine step_ret (jM S.ok D l) ?_
 rintro K h ⟨F,rfl⟩
 replace S:=S.call F
 rw [r]
 generalize d.arcs.getD a default=A at s t
 simp only [BS,LB,Nat.reduceLT,Nat.reduceEqDiff,F06,cu]
 refine ae ax S ?_;clear S;intro h u S v
 simp only [BS,LB,Nat.reduceLT,Nat.reduceEqDiff]
 refine az (S.store (i:=0) rfl ?_ ?_ rfl rfl ?_ ono) ?_
 . exact(by exact Tryz.t87.2.1)
 . exact(by intro x e;cases e)
 . exact lbt rfl
 clear S;rintro h ⟨S,G⟩;clear G;simp only [LC,ah,lay,Xy,Xz,Nat.reduceAdd]at S
 simp only [BS,LB,Nat.reduceLT,Nat.reduceEqDiff,F06,S.ld (b:=u) (o:=0) m0 rfl]
 refine an (qR S.ok (x.gr S.gr) s) ?_
 intro L H;replace S:=S.call H
 by_cases w:c A.s=k
 . have f:(c A.s:Int)=(k:Int):=by omega
   simp only [BS,LB,Nat.reduceLT,Nat.reduceEqDiff,F06,f,S.ld (b:=u) (o:=1) m0 rfl]
   refine an (qR S.ok (x.gr S.gr) t) ?_
   intro M I;replace S:=S.call I
   by_cases y:c A.t=k
   . have g:(c A.t:Int)=(k:Int):=by omega
     simp only [BS,LB,ac,Nat.reduceLT,Nat.reduceEqDiff,g]
     exact⟨by rw [decide_eq_true ⟨w,y⟩],S.gr⟩
   . have g: ¬(c A.t:Int)=(k:Int):=by omega
     simp only [BS,LB,ac,Nat.reduceLT,Nat.reduceEqDiff,g]
     exact⟨by rw [decide_eq_false (fun h=>y h.2)],S.gr⟩
 . have f: ¬(c A.s:Int)=(k:Int):=by omega
   simp only [BS,LB,ac,Nat.reduceLT,Nat.reduceEqDiff,f]
   exact⟨by rw [decide_eq_false (fun h=>w h.1)],S.gr⟩
end Go.Ab
end
section
namespace Go.Ab
open Go.Proofs
set_option maxRecDepth 10000
def Tryz.F0H:=aj t1<|aj t2<|aj t3<|aj t4<|aj t5<|aj t6<|aj Z3<|aj t33<|t156
def Tryz.FT:=aj t1<|aj t2<|aj t3<|aj t4<|aj Z0<|aj t32<|aj t33<|aj t66<|aj Z2<|aj t149<|aj Z1<|Z6
def Tryz.F07:=aj t1<|aj t3<|aj t4<|aj Z0<|aj t32<|aj t33<|aj t66<|aj t149<|aj Z1<|aj t156<|Z6
theorem pairN{x:Option Tch}:jm none x=true:=by cases x<;>rfl
theorem dT.grk{hq h0 h:Hp}(k:dT hq h0)(n:hq.n<=h0.n)(g:Gr h0 h):dT hq h:=fun b a=>(g.get b (Xc a n)).trans (k b a)
def HoldP(E:Env)(hq:Hp)(g:FuncId)(post:List Value)(N:Nat)(f:Nat->Bool):Prop:= ∀h,h.t.Sized h.n->dT hq h->hq.n<=h.n-> ∀v,v<N->aK E g ([.int .i64 (v:Nat)]++post) h (.bool (f v))
theorem indexI_ok{hq h0:Hp}(a:h0.t.Sized h0.n)(s:dT hq h0)(p:hq.n<=h0.n){v:Value}{xs:List Nat}{N:Nat}{g:FuncId}{post:Array Value}{f:Nat->Bool}(l:au h0 1 bJ v xs)(D:xs.length<=1000)(t: ∀x∈xs,x<N)(hf:HoldP zM hq g post.toList N f):
 Ret zM 170 [v,.func (.func g) #[] post] h0 fun r u=>Gr h0 u/\ ∃z:Int,r=.int .i64 z/\(0<=z↔xs.any f=true):=by
 have S:=Si a
 have E:=l.fl
 refine ab (n:=19) (rs:=[.tmp 4]) rfl Tryz.e170 rfl rfl rfl (lbt rfl) ?_
 simp only [BS,LB,Nat.reduceLT,Nat.reduceEqDiff,F0H,l.lenq]
 refine aN (fun(i:Nat) b h=>i<=xs.length/\Gr h0 h/\(∀j,(k:j<xs.length)->j<i->f xs[j]=false)/\b 0=v/\b 1=.func (.func g) #[] post/\b 7=.int .i64 (xs.length:Nat)/\b 8=.int .i64 i) (fun i=>xs.length-i) ?_ 0 _ _ ?_
 . clear S
   intro i y b h ⟨hi,g1,hno,r0,r1,r7,r8⟩
   have w:ao .i64 ((i:Int)+1)=((i+1:Nat):Int):=by rw [wrap64]<;>omega
   by_cases hlt:i<xs.length
   . obtain⟨c,o,A,m⟩:=(l.gr g1).ix (kd:=.i64) du hlt
     replace m:h.load c o 1=some [.int .i64 (xs[i]:Nat)]:=m
     simp only [BS,LB,Nat.reduceLT,Nat.reduceEqDiff,F0H,r0,r1,r7,r8,aB,hlt,A,m]
     refine an (hf _ g1.ok (s.grk p g1) (Xg p g1.n) xs[i] (t _ (Xh hlt))) ?_
     intro F q
     cases d:f xs[i]with
     | true=>
       simp only [BS,LB,ac,Nat.reduceLT,Nat.reduceEqDiff]
       refine⟨g1.trans q,_,rfl,⟨fun _=>List.any_eq_true.2 ⟨_,Xh hlt,d⟩,fun _=>by omega⟩⟩
     | false=>
       simp only [BS,LB,Nat.reduceLT,Nat.reduceEqDiff,r8,w]
       refine y (i+1) _ _ (by omega) ⟨by omega,g1.trans q,fun j k B=>?_,by simp [aa,r0],by simp [aa,r1],by simp [aa,r7],by simp [aa]⟩
       by_cases e:j=i
       . subst e;exact d
       . exact hno j k (by omega)
   . simp only [BS,LB,ac,Nat.reduceLT,Nat.reduceEqDiff,r7,r8,aB,hlt]
     refine⟨g1,_,rfl,⟨fun h=>by omega,fun h=>?_⟩⟩
     obtain⟨x,C,d⟩:=List.any_eq_true.1 h
     obtain⟨j,k,e⟩:=X6 C
     rw [<-e,hno j k (by omega)]at d
     cases d
 . exact⟨Xf _,Gr.refl a,fun j _ h=>by omega,by simp [aa,bQ],by simp [aa,bQ],by simp [aa],by simp [aa]⟩
theorem yz{hq h0:Hp}(a:h0.t.Sized h0.n)(j:dT hq h0)(k:hq.n<=h0.n){v:Value}{xs:List Nat}{N:Nat}{g:FuncId}{post:Array Value}{f:Nat->Bool}(d:au h0 1 bJ v xs)(l:xs.length<=1000)(m: ∀x∈xs,x<N)(hf:HoldP zM hq g post.toList N f):
 aK zM 100 [v,.func (.func g) #[] post] h0 (.bool (xs.any f)):=by
 have S:=Si a
 have o:=d.fl
 refine ab (n:=9) (rs:=[.tmp 4]) rfl Tryz.e100 rfl rfl rfl (lbt rfl) ?_
 simp only [BS,LB,Nat.reduceLT,Nat.reduceEqDiff]
 refine step_ret (indexI_ok a j k d l m hf) ?_
 rintro r h ⟨e,z,rfl,i⟩
 cases b:xs.any f with
 | true=>
   have c:=i.2 b
   simp only [BS,LB,ac,Nat.reduceLT,Nat.reduceEqDiff,c]
   exact e
 | false=>
   have c: ¬0<=z:=fun h=>by rw [i.1 h]at b;cases b
   simp only [BS,LB,ac,Nat.reduceLT,Nat.reduceEqDiff,c]
   exact e
section
variable{hq:Hp}{γ:Gra}{nb mb bp k:Nat}{p:Value}{m:List Int}{c:Nat->Nat}
def beyB(γ:Gra)(c:Nat->Nat)(k a:Nat):Bool:=!decide (c (γ.arcs.getD a default).s=k)
theorem beyond_ok(f:hq.t.Sized hq.n)(u:Good γ)(J:aR hq nb (ptrTo bp) γ)(x:fm hq mb p γ.nodes m c){b1 w y:Nat}(K:hq.load b1 0 1=some [ptrTo bp])(z:hq.load w 0 1=some [p])(B:hq.load y 0 1=some [.int .i64 (k:Nat)]):
 HoldP zM hq 218 [ptrTo b1,ptrTo w,ptrTo y] γ.arcs.length (beyB γ c k):=by
 intro h L g M a v
 have S:=Si L
 have C:γ.arcs[a]=γ.arcs.getD a default:=by simp [Xa,v]
 have N:γ.arcs.getD a default∈γ.arcs:=by rw [<-C];exact Xh v
 obtain⟨D,O,_⟩:=u.arcs _ N
 refine ab (n:=24) (rs:=[.tmp 5]) rfl Tryz.e218 rfl rfl rfl (lbt rfl) ?_
 simp only [BS,LB,Nat.reduceLT,Nat.reduceEqDiff,FT,g.load f K]
 refine step_ret (jM S.ok (J.keep f g) v) ?_
 rintro T U ⟨P,rfl⟩
 replace S:=S.call P
 unfold beyB
 rw [C]
 generalize γ.arcs.getD a default=A at D O
 simp only [BS,LB,Nat.reduceLT,Nat.reduceEqDiff,FT,cu]
 refine ae ax S ?_;clear S;intro h E S F
 simp only [BS,LB,Nat.reduceLT,Nat.reduceEqDiff]
 refine az (S.store (i:=0) rfl ?_ ?_ rfl rfl ?_ ono) ?_
 . exact(by exact Tryz.t87.2.1)
 . exact(by intro x e;cases e)
 . exact lbt rfl
 clear S;rintro h ⟨S,Q⟩;clear Q;simp only [LC,ah,lay,Xy,Xz,Nat.reduceAdd]at S
 have l:=g.grk M S.gr
 obtain⟨b,V,rfl,r,s,_,_⟩:=(x.keep f l).at0
 have G:=r.load1 (o:=0) rfl
 have W:=x.len
 obtain⟨d,o,H,t⟩:=s.ix (kd:=.i64) (bG .i64) (i:=A.s) (by omega)
 have R:m[A.s]'(by omega)=(c A.s:Int):=by
  rw [<-x.val A.s D,Xa,Xb (by omega)];rfl
 rw [R]at t
 simp only [encI]at t
 simp only [BS,LB,Nat.reduceLT,Nat.reduceEqDiff]
 refine av (aC rfl) (q:=0) (ps:=[]) (by kernel_rfl) ?_
 by_cases I:c A.s=k
 . have j:(c A.s:Int)=(k:Int):=by omega
   simp only [BS,LB,cls,ac,Nat.reduceLT,Nat.reduceEqDiff,Nat.reduceAdd,Nat.reducePow,Nat.reduceDiv,Nat.reduceMod,Nat.reduceLeDiff,FT,l.load f z,l.load f B,G,H,t,j,S.ld (b:=E) (o:=0) m0 rfl]
   exact⟨by rw [decide_eq_true I];rfl,S.gr⟩
 . have j: ¬(c A.s:Int)=(k:Int):=by omega
   simp only [BS,LB,cls,ac,Nat.reduceLT,Nat.reduceEqDiff,Nat.reduceAdd,Nat.reducePow,Nat.reduceDiv,Nat.reduceMod,Nat.reduceLeDiff,FT,l.load f z,l.load f B,G,H,t,j,S.ld (b:=E) (o:=0) m0 rfl]
   exact⟨by rw [decide_eq_false I];rfl,S.gr⟩
def borB(γ:Gra)(c:Nat->Nat)(k v:Nat):Bool:=decide (c v=k)&&(outs γ.arcs Arc.t γ.arcs.length v).any (beyB γ c k)
theorem xW{v:Nat}:borB γ c k v=true↔c v=k/\ ∃e∈γ.arcs,e.t=v/\c e.s≠k:=by
 unfold borB
 rw [Bool.and_eq_true,decide_eq_true_eq,List.any_eq_true]
 refine and_congr_right fun _=>?_
 constructor
 . rintro⟨a,j,d⟩
   obtain⟨b,f⟩:=fU.1 j
   have l:γ.arcs.getD a default∈γ.arcs:=by rw [Xa,Xb b];exact Xh b
   refine⟨_,l,f,fun e=>?_⟩
   unfold beyB at d
   rw [decide_eq_true e]at d;cases d
 . rintro⟨e,n,b,f⟩
   obtain⟨i,g,o⟩:=X6 n
   have h:γ.arcs.getD i default=e:=by rw [Xa,Xb g,o];rfl
   refine⟨i,fU.2 ⟨g,by rw [h];exact b⟩,?_⟩
   unfold beyB
   rw [h,decide_eq_false f];rfl
theorem zC(f:hq.t.Sized hq.n)(j:Good γ)(C:aR hq nb (ptrTo bp) γ)(x:fm hq mb p γ.nodes m c){b1 y z b4:Nat}(D:hq.load b1 0 1=some [p])(E:hq.load y 0 1=some [.int .i64 (k:Nat)])(F:hq.load z 0 1=some [ptrTo bp])(l4:hq.load b4 0 1=some [.func (.func 218) #[] #[ptrTo z,ptrTo b1,ptrTo y]]):
 HoldP zM hq 220 [ptrTo b1,ptrTo y,ptrTo z,ptrTo b4] γ.nodes (borB γ c k):=by
 intro h l g G v H
 have S:=Si l
 obtain⟨b,vm,rfl,r,s,_,_⟩:=(x.keep f g).at0
 have I:=r.load1 (o:=0) rfl
 have hl:=x.len
 obtain⟨d,o,J,w⟩:=s.ix (kd:=.i64) (bG .i64) (i:=v) (by omega)
 have ev:m[v]'(by omega)=(c v:Int):=by
  rw [<-x.val v H,Xa,Xb (by omega)];rfl
 rw [ev]at w
 replace w:h.load d o 1=some [.int .i64 (c v:Nat)]:=w
 have A:=g.load f D
 have B:=g.load f E
 have K:=g.load f F
 have L:=g.load f l4
 have M:=bD l A
 have N:=bD l B
 have O:=bD l K
 have P:=bD l L
 have Q:=r.lt l
 have R:=bD l w
 unfold borB
 by_cases T:c v=k
 . have t:(c v:Int)=(k:Int):=by omega
   refine ab (n:=23) (rs:=[.tmp 6]) rfl Tryz.e220 rfl rfl rfl (lbt rfl) ?_
   simp only [BS,LB]
   refine av (aC rfl) (q:=0) (ps:=[(12,13)]) (by kernel_rfl) ?_
   simp only [BS,LB,cls,Nat.reduceLT,Nat.reduceEqDiff,Nat.reduceAdd,Nat.reducePow,Nat.reduceDiv,Nat.reduceMod,Nat.reduceLeDiff,F07,A,B,K,I,J,w,t]
   refine dp (yg S.ok (C.keep f g) (by have:=j.many;omega) H) ?_
   rintro vl h2 ⟨e,sl,_⟩
   have U:=aA e M
   have V:=aA e N
   have W:=aA e O
   have X:=aA e P
   have Y:=aA e Q
   have Z:=aA e R
   replace S:=S.call e
   simp only [BS,LB,cls,Nat.reduceLT,Nat.reduceEqDiff,Nat.reduceAdd,Nat.reducePow,Nat.reduceDiv,Nat.reduceMod,Nat.reduceLeDiff,F07,e.load L]
   refine cw (yz S.ok (g.grk G e) (Xg G e.n) sl (by have:=j.many;have:=kJ γ.arcs Arc.t γ.arcs.length v;omega) (fun a ha=>(fU.1 ha).1) (post:=#[ptrTo z,ptrTo b1,ptrTo y]) (beyond_ok f j C x F D E)) ?_
   intro h3 u
   have w1:=aA u (Xc M e.n)
   have w2:=aA u (Xc N e.n)
   have w3:=aA u (Xc O e.n)
   have w4:=aA u (Xc P e.n)
   have wb:=aA u (Xc Q e.n)
   have wd:=aA u (Xc R e.n)
   replace S:=S.call u
   simp only [BS,LB,cls,ac,Nat.reduceLT,Nat.reduceEqDiff,Nat.reduceAdd,Nat.reducePow,Nat.reduceDiv,Nat.reduceMod,Nat.reduceLeDiff]
   refine⟨by simp only [a8,bC,aW,bI,aY,ne_eq,not_false_eq_true,bK,bZ,bj,aZ,bS,c9,aJ,Nat.reduceLT,Nat.reduceEqDiff,reduceIte,XL,ag,aP,bM,aQ U,aQ V,aQ W,aQ X,aQ Y,aQ Z,aM U,aM V,aM W,aM X,aM Y,aM Z,aQ w1,aQ w2,aQ w3,aQ w4,aQ wb,aQ wd,aM w1,aM w2,aM w3,aM w4,aM wb,aM wd],?_⟩
   exact⟨by rw [decide_eq_true T,XZ],S.gr⟩
 . have t: ¬(c v:Int)=(k:Int):=by omega
   refine ab (n:=23) (rs:=[.tmp 6]) rfl Tryz.e220 rfl rfl rfl (lbt rfl) ?_
   simp only [BS,LB]
   refine av (aC rfl) (q:=0) (ps:=[(12,13)]) (by kernel_rfl) ?_
   simp only [BS,LB,cls,ac,Nat.reduceLT,Nat.reduceEqDiff,Nat.reduceAdd,Nat.reducePow,Nat.reduceDiv,Nat.reduceMod,Nat.reduceLeDiff,F07,A,B,I,J,w,t]
   refine⟨by simp only [a8,bC,aW,bI,aY,ne_eq,not_false_eq_true,bK,bZ,bj,aZ,bS,c9,aJ,Nat.reduceLT,Nat.reduceEqDiff,reduceIte,XL,ag,aP,bM,oO,pairN],?_⟩
   exact⟨by rw [decide_eq_false T,Bool.false_and],S.gr⟩
end
end Go.Ab

end
section
namespace Go.Ab
open Go.Proofs
set_option maxRecDepth 10000
def Tryz.F0I:=aj t1<|aj t2<|aj t3<|aj t4<|aj t5<|aj t33<|aj t66<|aj t156<|Z6
def Tryz.F08:=aj t1<|aj t2<|aj t3<|aj t4<|aj Z0<|aj t32<|aj t33<|aj t66<|aj t149<|aj Z1<|aj t156<|aj Z6<|t201
def Tryz.F1o:=aj t1<|aj t3<|aj t4<|aj Z0<|aj t32<|aj t149<|Z1
def Tryz.FI:=aj t1<|aj t2<|aj t3<|aj t4<|aj t24<|aj Z0<|aj t32<|aj t33<|aj Z2<|aj t149<|aj Z1<|Z18
def Tryz.F0J:=aj t1<|aj t2<|aj t3<|aj t24<|aj Z0<|aj t32<|aj t33<|aj t149<|aj Z1<|aj t156<|Z18
theorem cnodes_ok{h0:Hp}(f:h0.t.Sized h0.n){p d:Value}(g:Fl p)(i:Fl d):Ret zM 219 [p,d] h0 fun v e=>Gr h0 e/\ ∃b1 a,v=.func (.func 235) #[] #[ptrTo b1,ptrTo a]/\h0.n<=b1/\h0.n<=a/\e.load b1 0 1=some [p]/\e.load a 0 1=some [d]:=by
 have S:=Si f
 refine ab (n:=6) (rs:=[.tmp 4]) rfl Tryz.e219 rfl rfl rfl (lbt rfl) ?_
 simp only [BS,Nat.reduceLT]
 refine ae (bF (by assumption)) S ?_;clear S;intro h b1 S b
 simp only [BS,Nat.reduceLT,Nat.reduceEqDiff,if_false]
 refine ae (bF (by assumption)) S ?_;clear S;intro h a S c
 simp only [BS,LB,ac,Nat.reduceLT,Nat.reduceEqDiff]
 exact⟨S.gr,b1,a,rfl,b,c,S.ld m1 rfl,S.ld m0 rfl⟩
theorem cnodes_it {hq h0:Hp} (q:hq.t.Sized hq.n) (j:h0.t.Sized h0.n) (C:dT hq h0) (t:hq.n<=h0.n) {I N:Nat} {p:Value} {m:List Int} {c:Nat->Nat} (x:fm hq I p N m c) (T:N<=1000) {b1 k:Nat} {g:FuncId} {post:Array Value} {f:Nat->Bool} (hf:HoldP zM hq g post.toList N f)
 (K:h0.load b1 0 1=some [p]) (L:h0.load k 0 1=some [.func (.func g) #[] post]):
 lE zM 235 [] [ptrTo b1,ptrTo k] h0 (fun c=>c=b1\/c=k\/c<hq.n) (((zO N).filter f).map fun(v:Nat)=>[.int .i64 (v:Nat)]):=by
 intro M J Z O Y h F s d
 have D:=s.load j K (.inl rfl)
 obtain⟨b,U,rfl,r,E,_,_⟩:=(x.keep q (s.keep C t (fun c u=>.inr (.inr u)))).at0
 have G:=r.load1 (o:=0) rfl
 have V:=x.len
 have y:(m.length:Int)=(N:Int):=by omega
 refine enter (n:=25) (rs:=[]) rfl Tryz.e235 rfl rfl rfl (lbt rfl) ?_
 simp only [BS,LB,Nat.reduceLT,Nat.reduceEqDiff,F0I,D,G,E.lenq,y]
 refine aN (fun(i:Nat) e h=>i<=N/\ ∃F,ItS h0 (fun c=>c=b1\/c=k\/c<hq.n) h F/\J ((zO i).filter f).length h F/\e 0=.func (.yield M) #[] #[]/\e 1=ptrTo b1/\e 2=ptrTo k/\e 11=.int .i64 (N:Nat)/\e 12=.int .i64 i) (fun i=>N-i) ?_ 0 _ _ ?_
 . clear D s d F r E G h
   intro i H e h ⟨hi,F,s,d,r0,r1,r2,r11,r12⟩
   have w:ao .i64 ((i:Int)+1)=((i+1:Nat):Int):=by rw [wrap64]<;>omega
   by_cases hlt:i<N
   . have P:=s.load j L (.inr (.inl rfl))
     simp only [BS,LB,Nat.reduceLT,Nat.reduceEqDiff,F0I,r2,r11,r12,aB,hlt,P]
     refine an (hf _ s.ok (s.keep C t (fun c u=>.inr (.inr u))) (Xg t s.n) i hlt) ?_
     intro W l
     cases z:f i with
     | true=>
       have Q:(((zO N).filter f).map fun(v:Nat)=>[Value.int .i64 (v:Nat)])[((zO i).filter f).length]? =some [.int .i64 (i:Nat)]:=by
        rw [Xi,q8 z _ hlt];rfl
       have A:((zO (i+1)).filter f).length=((zO i).filter f).length+1:=by rw [jf,if_pos z];simp
       simp only [BS,LB,Nat.reduceLT,Nat.reduceEqDiff,r0]
       refine cy Y (s.gr l) (Y.gr _ _ _ _ d l) (i:=((zO i).filter f).length) Q ?_ ?_ ?_
       . intro B R a S _ _
         simp only [BS,LB,Nat.reduceLT,Nat.reduceEqDiff,r12,w]
         exact H (i+1) _ _ (by omega) ⟨by omega,R,S,by rw [A];exact a,by simp [aa,r0],by simp [aa,r1,ag],by simp [aa,r2,ag],by simp [aa,r11],by simp [aa]⟩
       . intro B a _
         simp only [BS,LB,Nat.reduceLT,Nat.reduceEqDiff]
         exact fk rfl ⟨rfl,.inr (.inl ⟨_,rfl,a⟩)⟩
       . intro v B a
         exact absurd a (O v B)
     | false=>
       have A:(zO (i+1)).filter f=(zO i).filter f:=by rw [jf,if_neg (by rw [z];decide)];simp
       simp only [BS,LB,Nat.reduceLT,Nat.reduceEqDiff,r12,w]
       exact H (i+1) _ _ (by omega) ⟨by omega,F,s.gr l,by rw [A];exact Y.gr _ _ _ _ d l,by simp [aa,r0],by simp [aa,r1,ag],by simp [aa,r2,ag],by simp [aa,r11],by simp [aa]⟩
   . simp only [BS,LB,Nat.reduceLT,r11,r12,aB,hlt]
     have:i=N:=by omega
     subst this
     exact bO (cB ⟨rfl,_,rfl,rfl,.inl ⟨_,F,rfl,by simpa using d⟩⟩)
 . exact⟨Xf _,F,s,d,by simp [aa,bQ],by simp [aa,bQ,ag],by simp [aa,bQ,ag],by simp [aa],by simp [aa]⟩
theorem border_ok{h0:Hp}(z:h0.t.Sized h0.n){a:Gra}{T U E k:Nat}{p:Value}{m:List Int}{c:Nat->Nat}(j:Good a)(F:aR h0 T (ptrTo E) a)(x:fm h0 U p a.nodes m c):
 Ret zM 183 [p,ptrTo E,.int .i64 (k:Nat)] h0 fun r G=>Gr h0 G/\au G 1 bJ r ((zO a.nodes).filter (borB a c k))/\ ∀c,ar r c->h0.n<=c:=by
 have S:=Si z
 have fp:Fl p:=by obtain⟨b,_,rfl,_⟩:=x.at0;exact cI
 obtain⟨bc,V,rfl,r,s,_,_⟩:=x.at0
 have W:=r.load1 (o:=0) rfl
 have X:=x.len
 have Y:=j.n1
 have n2:=j.n2
 have A:(m.length:Int)=(a.nodes:Int):=by omega
 obtain⟨H,ov,sv,cv,Z⟩: ∃d o s c,V=.slice (some ⟨d,o,s⟩) m.length c:=by
  rcases s with⟨_,e⟩|⟨d,o,s,c,e,_⟩
  . subst e;simp at X;omega
  . exact⟨d,o,s,c,e⟩
 subst Z
 have B:H<h0.n:=s.lt z (b:=H) rfl
 refine ab (n:=29) (rs:=[.tmp 6]) rfl Tryz.e183 rfl rfl rfl (lbt rfl) ?_
 simp only [BS,Nat.reduceLT]
 refine ae (bF (by exact cI)) S ?_;clear S;intro h l S I
 simp only [BS,Nat.reduceLT,Nat.reduceEqDiff,if_false]
 refine ae (bF (by exact cI)) S ?_;clear S;intro h u S J
 simp only [BS,Nat.reduceLT,Nat.reduceEqDiff,if_false]
 refine ae (bF (by exact aU)) S ?_;clear S;intro h K S L
 have z3:=(S.row (b:=l) m2).lt S.ok
 have z4:=(S.row (b:=u) m1).lt S.ok
 have zc:=Xc (r.lt z) S.gr.n
 have zd:=Xc B S.gr.n
 have C:=S.gr.load W
 have s':=s.gr S.gr
 simp only [BS]
 refine av (aC rfl) (q:=0) (ps:=[(8,13),(8,12),(8,9)]) (by kernel_rfl) ?_
 simp only [BS,LB,cls,Nat.reduceLT,Nat.reduceEqDiff,Nat.reduceAdd,Nat.reducePow,Nat.reduceDiv,Nat.reduceMod,Nat.reduceLeDiff,F08,S.ld (b:=l) (o:=0) m2 rfl,S.ld (b:=u) (o:=0) m1 rfl]
 refine cw (bV S.ok (F.gr S.gr)) ?_
 intro h1 t
 have M:=aA t z3
 have N:=aA t z4
 have O:=aA t zc
 have P:=aA t zd
 have w:=t.load C
 replace S:=S.call t
 simp only [BS,LB,cls,Nat.reduceLT,Nat.reduceEqDiff,Nat.reduceAdd,Nat.reducePow,Nat.reduceDiv,Nat.reduceMod,Nat.reduceLeDiff,F08,w,s'.lenq,A,S.ld (b:=l) (o:=0) m2 rfl,S.ld (b:=u) (o:=0) m1 rfl]
 refine⟨by simp only [a8,bC,aW,bI,aY,ne_eq,not_false_eq_true,bK,bZ,bj,aZ,bS,c9,aJ,Nat.reduceLT,Nat.reduceEqDiff,reduceIte,XL,ag,ym,aQ M,aQ N,aQ O,aM M,aM N,aM O,aQ P,aM P],?_⟩
 refine ae ax S ?_;clear S;intro h Q S R
 simp only [BS,LB,Nat.reduceLT,Nat.reduceEqDiff]
 refine az (ay S (i:=0) rfl Tryz.t156.2.1 ip (Xl (lbt rfl)) ono) ?_
 clear S;rintro h2 ⟨S,_⟩
 simp only [LC]at S
 simp only [BS,LB,Nat.reduceLT,Nat.reduceEqDiff,F08,S.ld (b:=l) (o:=0) m3 rfl]
 have D:=S.gr
 have y:=S.ok
 have l3:=S.ld (b:=l) (o:=0) m3 rfl
 have l4:=S.ld (b:=u) (o:=0) m2 rfl
 have l5:=S.ld (b:=K) (o:=0) m1 rfl
 have l7:=S.ld (b:=Q) (o:=0) m0 rfl
 have hf:=zC y j (F.gr D) (x.gr D) l3 l5 l4 l7
 refine step_ret (cnodes_ok S.ok cI ip) ?_
 rintro v h4 ⟨g,b1,b2,rfl,Y,ad,y1,y2⟩
 have it:=cnodes_it y g.ok g.keep g.n (x.gr D) (by omega) (g:=220) (post:=#[ptrTo l,ptrTo K,ptrTo u,ptrTo Q]) hf y1 y2
 replace S:=S.call g
 simp only [BS,LB,Nat.reduceLT,Nat.reduceEqDiff]
 refine step_ret (sa S.ok (g:=235) (post:=#[ptrTo b1,ptrTo b2]) (iter_w it) (fun _ h=>h.elim) (by have:=pF (n:=a.nodes) (f:=borB a c k);omega)) ?_
 rintro r h5 ⟨f5,G5,d5⟩
 have g5:=f5.gr
 have k5:=S.fr.n
 replace S:=S.call g5
 simp only [BS,LB,ac,Nat.reduceLT,Nat.reduceEqDiff]
 exact⟨S.gr,G5.sl rfl du (by decide),fun c hc=>by have:=d5 c hc;omega⟩
theorem AQ{h0:Hp}(d:h0.t.Sized h0.n){a:Gra}{e c b:Nat}(f:aR h0 e (ptrTo c) a)(j:b<a.nodes):aK zM 236 [ptrTo c,.int .i64 (b:Nat)] h0 (.bool true):=by
 have S:=Si d
 have g:(0:Int)<=(b:Int):=by omega
 have h:(b:Int)<(a.nodes:Int):=by omega
 refine ab (n:=17) (rs:=[.tmp 4]) rfl Tryz.e236 rfl rfl rfl (lbt rfl) ?_
 simp only [BS,LB,Nat.reduceLT,Nat.reduceEqDiff,F1o,g]
 refine an (bV S.ok f) ?_
 intro k i
 simp only [BS,LB,ac,Nat.reduceLT,Nat.reduceEqDiff,h]
 exact i
noncomputable def iL(c:Gra)(b a:Nat):Bool:=decide (dOf (seen c.arcs Arc.t Arc.s) b (c.arcs.getD a default).s<FAR/\dOf (seen c.arcs Arc.t Arc.s) b (c.arcs.getD a default).t<FAR/\dOf (seen c.arcs Arc.t Arc.s) b (c.arcs.getD a default).s=(c.arcs.getD a default).w+dOf (seen c.arcs Arc.t Arc.s) b (c.arcs.getD a default).t)
def HoldA(E:Env)(hq:Hp)(x:Nat)(g:FuncId)(post:List Value)(N:Nat)(f:Nat->Bool):Prop:= ∀h,h.t.Sized h.n->(∀b,b<hq.n->b≠x->h.get b=hq.get b)->hq.n<=h.n-> ∀v,v<N->aK E g ([.int .i64 (v:Nat)]++post) h (.bool (f v))
theorem kL{h a:Hp}{b o n:Nat}{l:List Value}(e:h.load b o n=some l)(g:a.get b=h.get b):a.load b o n=some l:=by
 unfold Hp.load at e⊢
 rw [g];exact e
theorem sl_get{α:Type}{h a:Hp}{k:Nat}{enc:α->List Value}{v:Value}{xs:List α}(s:au h k enc v xs)(g: ∀c,ar v c->a.get c=h.get c):au a k enc v xs:=by
 rcases s with s|⟨b,o,s,c,d,e,f⟩
 . exact .inl s
 . exact .inr ⟨b,o,s,c,d,e,kL f (g b (by rw [d];rfl))⟩
theorem tells1_ok{g hq:Hp}(D:g.t.Sized g.n)(j:hq.t.Sized hq.n)(X:dT g hq)(M:g.n<=hq.n){x:Nat}(hx:g.n<=x){f:Gra}(E:Good f){Y N b r b5:Nat}(Z:aR g Y (ptrTo N) f)(B:r≠x)(x5:b5≠x)(O: ∀v,IsD (seen f.arcs Arc.t Arc.s) b v (dOf (seen f.arcs Arc.t Arc.s) b v)){C vA vO:Value}(P:hq.load r 0 1=some [ptrTo N])(Q:hq.load b5 0 1=some [C])(R:au hq 1 bJ C ((zO f.nodes).map (dOf (seen f.arcs Arc.t Arc.s) b)))(xD: ∀c,ar C c->c≠x):
 HoldA zM hq x 246 [ptrTo r,ptrTo b5] f.arcs.length (iL f b):=by
 intro h ok k nq a F
 have kN:dT g h:=fun c s=>(k c (Xc s M) (by omega)).trans (X c s)
 have nN:g.n<=h.n:=Xg M nq
 have e2:=kL P (k r (bD j P) B)
 have e5:=kL Q (k b5 (bD j Q) x5)
 have t:au h 1 bJ C _:=sl_get R (fun c s=>k c (R.lt j s) (xD c s))
 have S:=Si ok
 have T:f.arcs[a]=f.arcs.getD a default:=by simp [Xa,F]
 have hm:f.arcs.getD a default∈f.arcs:=by rw [<-T];exact Xh F
 obtain⟨hs,ht,hw⟩:=E.arcs _ hm
 unfold iL
 have G:=O (f.arcs.getD a default).s
 have H:=O (f.arcs.getD a default).t
 generalize hd:dOf (seen f.arcs Arc.t Arc.s) b=d at G H t
 refine ab (n:=35) (rs:=[.tmp 4]) rfl Tryz.e246 rfl rfl rfl (lbt rfl) ?_
 simp only [BS,LB,Nat.reduceLT,Nat.reduceEqDiff,FI,e2]
 refine step_ret (jM S.ok (Z.keep D kN) F) ?_
 rintro rv h4 ⟨g4,rfl⟩
 replace S:=S.call g4
 rw [T]
 generalize f.arcs.getD a default=A at hs ht hw G H
 simp only [BS,LB,Nat.reduceLT,Nat.reduceEqDiff,FI,cu]
 refine ae ax S ?_;clear S;intro h u S U
 simp only [BS,LB,Nat.reduceLT,Nat.reduceEqDiff]
 refine az (S.store (i:=0) rfl ?_ ?_ rfl rfl ?_ ono) ?_
 . exact(by exact Tryz.t87.2.1)
 . exact(by intro x e;cases e)
 . exact lbt rfl
 clear S;rintro h ⟨S,mo⟩;clear mo;simp only [LC,ah,lay,Xy,Xz,Nat.reduceAdd]at S
 have w:=t.gr S.gr
 have lD:((zO f.nodes).map d).length=f.nodes:=by simp
 obtain⟨c1,o1,x1,I⟩:=w.ix (kd:=.i64) du (i:=A.t) (by omega)
 obtain⟨c2,o2,B,V⟩:=w.ix (kd:=.i64) du (i:=A.s) (by omega)
 simp only [List.getElem_map,List.getElem_range,bJ]at I V
 have J:=S.gr.load e5
 have z6:=(S.row (b:=u) m0).lt S.ok
 have z5:=bD S.ok J
 have zc:=bD S.ok I
 simp only [BS,LB,Nat.reduceLT,Nat.reduceEqDiff]
 refine av (aC rfl) (q:=0) (ps:=[]) (by kernel_rfl) ?_
 simp only [BS,LB,cls,Nat.reduceLT,Nat.reduceEqDiff,Nat.reduceAdd,Nat.reducePow,Nat.reduceDiv,Nat.reduceMod,Nat.reduceLeDiff,FI,J,x1,I,S.ld (b:=u) (o:=1) m0 rfl,S.ld (b:=u) (o:=2) m0 rfl]
 refine cw (add_ok S.ok) ?_
 intro h7 p
 have v6:=aA p z6
 have v5:=aA p z5
 have vc:=aA p zc
 replace S:=S.call p
 simp only [BS,LB,cls,Nat.reduceLT,Nat.reduceEqDiff,Nat.reduceAdd,Nat.reducePow,Nat.reduceDiv,Nat.reduceMod,Nat.reduceLeDiff]
 have ad:=fj
 have b1:=G.le
 have r:=H.le
 have K:wy (wy (wy (d A.t:Nat))+wy (A.w:Nat))=(if d A.t+A.w<FAR then((d A.t+A.w:Nat):Int)else(FAR:Int)):=by
  unfold wy
  repeat' split
  all_goals omega
 rw [K]
 have y:=p.load J
 have z:=p.load V
 by_cases hf:d A.t+A.w<FAR
 . rw [if_pos hf]
   have w1:wy ((d A.t+A.w:Nat):Int)<72057594037927936:=by unfold wy;omega
   have L:decide (wy ((d A.t+A.w:Nat):Int)<72057594037927936)=true:=decide_eq_true w1
   refine an (oS S.ok) ?_
   intro h8 l;replace S:=S.call l
   rw [L]
   by_cases W:d A.s=A.w+d A.t
   . have m:((d A.t+A.w:Nat):Int)=(d A.s:Int):=by omega
     simp only [BS,LB,ac,Nat.reduceLT,Nat.reduceEqDiff,FI,l.load y,B,l.load z,m,S.ld (b:=u) (o:=0) m0 rfl]
     exact⟨by rw [decide_eq_true ⟨by omega,by omega,W⟩],S.gr⟩
   . have m: ¬((d A.t+A.w:Nat):Int)=(d A.s:Int):=by omega
     simp only [BS,LB,ac,Nat.reduceLT,Nat.reduceEqDiff,FI,l.load y,B,l.load z,m,S.ld (b:=u) (o:=0) m0 rfl]
     exact⟨by rw [decide_eq_false (fun h=>W h.2.2)],S.gr⟩
 . rw [if_neg hf]
   have L:decide (wy (FAR:Int)<72057594037927936)=false:=decide_eq_false (by unfold wy;omega)
   refine an (oS S.ok) ?_
   intro h8 l;replace S:=S.call l
   rw [L]
   simp only [BS,LB,ac,Nat.reduceLT,Nat.reduceEqDiff]
   exact⟨by rw [decide_eq_false (fun h=>by omega)],S.gr⟩
theorem tells_ok{h0 a:Hp}(l:a.t.Sized a.n)(C:h0.t.Sized h0.n)(s:Gr a h0){x:Nat}(E:a.n<=x)(F:x<h0.n){d:Gra}(g:Good d){G t b:Nat}(u:aR a G (ptrTo t) d)(H:b<d.nodes):
 Ret zM 239 [ptrTo t,.int .i64 (b:Nat)] h0 fun r w=>Gr h0 w/\ ∃f b5,r=.func (.func 246) #[] #[ptrTo f,ptrTo b5]/\h0.n<=f/\h0.n<=b5/\HoldA zM w x 246 [ptrTo f,ptrTo b5] d.arcs.length (iL d b):=by
 have S:=Si C
 refine ab (n:=10) (rs:=[.tmp 4]) rfl Tryz.e239 rfl rfl rfl (lbt rfl) ?_
 simp only [BS,Nat.reduceLT]
 refine ae (bg (by intro x e;cases e)) S ?_;clear S;intro h f S j;simp only [ah]at S
 simp only [BS,LB,Nat.reduceLT,Nat.reduceEqDiff,F0J,S.ld (b:=f) (o:=0) m0 rfl]
 refine step_ret (qc S.ok g (u.gr (s.trans S.gr)) H) ?_
 rintro r T ⟨I,U,vA,vO,D,V,O,rfl,m,J,K,_,y,L,_⟩
 have W:=S.fr.n
 replace S:=S.call I
 have M:=m.fl
 have N:=J.fl
 have P:=K.fl
 have z:D=dOf (seen d.arcs Arc.t Arc.s) b:=funext fun v=>((ur (y v)).1).symm
 have p: ∀v,IsD (seen d.arcs Arc.t Arc.s) b v (dOf (seen d.arcs Arc.t Arc.s) b v):=fun v=>by rw [<-z];exact y v
 rw [z]at m
 simp only [BS,F0J]
 have Q:=S.row (b:=f) m0
 have X:=S.fr.n
 have k:=S.gr
 have q:=S.ok
 clear S
 have S:=Si q
 refine ae ax S ?_;clear S;intro h b5 S A
 simp only [BS,LB,Nat.reduceLT,Nat.reduceEqDiff]
 refine az (S.store (i:=0) rfl Tryz.t187.2.1 (by intro x e;cases e) rfl (by simp only [ah,List.all_cons,List.all_nil,M.2.1,N.2.1,P.2.1,XL]) (lbt rfl) ono) ?_
 clear S;rintro Y ⟨S,_⟩
 simp only [LC,ah,lay,Xy,Xz,Nat.reduceAdd]at S
 simp only [BS,LB,ac,Nat.reduceLT,Nat.reduceEqDiff]
 refine⟨k.trans S.gr,f,b5,rfl,j,by omega,?_⟩
 have B:=s.trans (k.trans S.gr)
 exact tells1_ok l S.ok B.keep B.n E g u (by omega) (by omega) p (vA:=vA) (vO:=vO) ((Q.gr S.gr).load1 (o:=0) rfl) (S.ld (b:=b5) (o:=0) m0 rfl) (m.gr S.gr) (fun c R e=>by have:=L c (.inl R);omega)
def Tryz.F0K:=aj t1<|aj t2<|aj t3<|aj t4<|t156
def Tryz.F0L:=aj t1<|aj t2<|aj t3<|aj t4<|aj t9<|aj t63<|t201
def Tryz.FU:=aj t1<|aj t2<|aj t3<|aj t4<|aj t5<|aj t6<|aj Z3<|aj Z4<|aj t9<|aj t10<|aj Z0<|aj t32<|aj t33<|aj t63<|aj t149<|aj Z1<|aj t156<|t201
theorem marked_ok{h0:Hp}(f:h0.t.Sized h0.n){n:Nat}{d:Value}(g:Fl d):Ret zM 238 [.int .i64 (n:Nat),d] h0 fun v e=>Gr h0 e/\ ∃b1 a,v=.func (.func 245) #[] #[ptrTo b1,ptrTo a]/\h0.n<=b1/\h0.n<=a/\e.load b1 0 1=some [.int .i64 (n:Nat)]/\e.load a 0 1=some [d]:=by
 have S:=Si f
 refine ab (n:=6) (rs:=[.tmp 4]) rfl Tryz.e238 rfl rfl rfl (lbt rfl) ?_
 simp only [BS,Nat.reduceLT]
 refine ae (bF (by exact aU)) S ?_;clear S;intro h b1 S b
 simp only [BS,Nat.reduceLT,Nat.reduceEqDiff,if_false]
 refine ae (bF (by assumption)) S ?_;clear S;intro h a S c
 simp only [BS,LB,ac,Nat.reduceLT,Nat.reduceEqDiff]
 exact⟨S.gr,b1,a,rfl,b,c,S.ld m1 rfl,S.ld m0 rfl⟩
theorem marked_it {hq h0:Hp} (y:hq.t.Sized hq.n) (e:h0.t.Sized h0.n) (z:dT hq h0) (r:hq.n<=h0.n) {x:Nat} {N:Nat} (I:N<=1000) {b1 j:Nat} {g:FuncId} {post:Array Value} {f:Nat->Bool} (hf:HoldA zM hq x g post.toList N f)
 (A:h0.load b1 0 1=some [.int .i64 (N:Nat)]) (B:h0.load j 0 1=some [.func (.func g) #[] post]):
 lE zM 245 [] [ptrTo b1,ptrTo j] h0 (fun c=>c=b1\/c=j\/(c<hq.n/\c≠x)) (((zO N).filter f).map fun(v:Nat)=>[.int .i64 (v:Nat)]):=by
 intro C J Z D Y h F s b
 have t:=s.load e A (.inl rfl)
 refine enter (n:=19) (rs:=[]) rfl Tryz.e245 rfl rfl rfl (lbt rfl) ?_
 simp only [BS,LB,Nat.reduceLT,F0K,t]
 refine aN (fun(i:Nat) d h=>i<=N/\ ∃F,ItS h0 (fun c=>c=b1\/c=j\/(c<hq.n/\c≠x)) h F/\J ((zO i).filter f).length h F/\d 0=.func (.yield C) #[] #[]/\d 1=ptrTo b1/\d 2=ptrTo j/\d 5=.int .i64 (N:Nat)/\d 6=.int .i64 i) (fun i=>N-i) ?_ 0 _ _ ?_
 . clear t s b F h
   intro i u d h ⟨hi,F,s,b,r0,r1,r2,r5,r6⟩
   have w:ao .i64 ((i:Int)+1)=((i+1:Nat):Int):=by rw [wrap64]<;>omega
   by_cases hlt:i<N
   . have E:=s.load e B (.inr (.inl rfl))
     simp only [BS,LB,Nat.reduceLT,Nat.reduceEqDiff,F0K,r2,r5,r6,aB,hlt,E]
     refine an (hf _ s.ok (fun c l m=>(s.data c (Xc l r) (.inr (.inr ⟨l,m⟩))).trans (z c l)) (Xg r s.n) i hlt) ?_
     intro K k
     cases o:f i with
     | true=>
       have m:(((zO N).filter f).map fun(v:Nat)=>[Value.int .i64 (v:Nat)])[((zO i).filter f).length]? =some [.int .i64 (i:Nat)]:=by
        rw [Xi,q8 o _ hlt];rfl
       have p:((zO (i+1)).filter f).length=((zO i).filter f).length+1:=by rw [jf,if_pos o];simp
       simp only [BS,LB,Nat.reduceLT,Nat.reduceEqDiff,r0]
       refine cy Y (s.gr k) (Y.gr _ _ _ _ b k) (i:=((zO i).filter f).length) m ?_ ?_ ?_
       . intro q G a H _ _
         simp only [BS,LB,Nat.reduceLT,Nat.reduceEqDiff,r6,w]
         exact u (i+1) _ _ (by omega) ⟨by omega,G,H,by rw [p];exact a,by simp [aa,r0],by simp [aa,r1,ag],by simp [aa,r2,ag],by simp [aa,r5],by simp [aa]⟩
       . intro q a _
         simp only [BS,LB,Nat.reduceLT,Nat.reduceEqDiff]
         exact fk rfl ⟨rfl,.inr (.inl ⟨_,rfl,a⟩)⟩
       . intro v q a
         exact absurd a (D v q)
     | false=>
       have p:(zO (i+1)).filter f=(zO i).filter f:=by rw [jf,if_neg (by rw [o];decide)];simp
       simp only [BS,LB,Nat.reduceLT,Nat.reduceEqDiff,r6,w]
       exact u (i+1) _ _ (by omega) ⟨by omega,F,s.gr k,by rw [p];exact Y.gr _ _ _ _ b k,by simp [aa,r0],by simp [aa,r1,ag],by simp [aa,r2,ag],by simp [aa,r5],by simp [aa]⟩
   . simp only [BS,LB,Nat.reduceLT,r5,r6,aB,hlt]
     have:i=N:=by omega
     subst this
     exact bO (cB ⟨rfl,_,rfl,rfl,.inl ⟨_,F,rfl,by simpa using b⟩⟩)
 . exact⟨Xf _,F,s,b,by simp [aa,bQ],by simp [aa,bQ,ag],by simp [aa,bQ,ag],by simp [aa],by simp [aa]⟩
def dy(n:Nat)(f:Nat->Bool):List Value:=(zO n).map fun j=>.bool (f j)
theorem pZ{n:Nat}{f:Nat->Bool}:(dy n f).length=n:=by simp [dy]
theorem bolC_at{n j:Nat}{f:Nat->Bool}(h:j<n):(dy n f)[j]? =some (.bool (f j)):=iM (F:=fun j=>Value.bool (f j)) h
theorem xV{n j:Nat}{f:Nat->Bool}:(dy n f).set j (.bool true)=dy n (fun u=>decide (u=j)||f u):=by
 have:=iE (N:=n) (k:=j) (F:=fun j=>Value.bool (f j)) (F':=fun u=>Value.bool (decide (u=j)||f u)) (fun i _ a=>by simp [a])
 unfold dy
 rw [<-this];simp
theorem j8{n:Nat}{f g:Nat->Bool}(h: ∀j,j<n->f j=g j):dy n f=dy n g:=by
 unfold dy
 refine X4 fun j a=>?_
 rw [h j (List.mem_range.1 a)]
theorem putB_ok{h0:Hp}(E:h0.t.Sized h0.n){d n:Nat}{f:Nat->Bool}(R:Row h0 d (dy n f) 1){g:FuncId}{post:Array Value}{D:Nat->Prop}{xs:List Nat}(M:lE zM g [] post.toList h0 D (xs.map fun(v:Nat)=>[.int .i64 (v:Nat)]))(G: ¬D d)(B: ∀x∈xs,x<n)(hl:xs.length<=1000):
 Ret zM 237 [.slice (some ⟨d,0,none⟩) n n,.func (.func g) #[] post,.bool true] h0 fun r t=>Mo (· =d) h0 t/\r=.slice (some ⟨d,0,none⟩) n n/\Row t d (dy n (fun u=>decide (u∈xs)||f u)) 1:=by
 have S:=St.init1 E (o:=.row (dy n f) 1) R
 have zl:=R.lt E
 refine ab (n:=15) (rs:=[.tmp 6]) rfl Tryz.e237 rfl rfl rfl (lbt rfl) ?_
 simp only [BS,Nat.reduceLT]
 refine ae (bF (by exact a9)) S ?_;clear S;intro h m S H
 simp only [BS,Nat.reduceLT,Nat.reduceEqDiff,if_false]
 refine ae (bF (by exact mq)) S ?_;clear S;intro h w S I
 simp only [BS,Nat.reduceLT,Nat.reduceEqDiff,if_false]
 have N:dy n f=dy n (fun u=>decide (u∈xs.take 0)||f u):=j8 fun j _=>by simp
 refine fu S (g:=g) (a:=#[]) (b:=post) (by simp [bS,aa,ag]) rfl rfl ?_
 intro J A z p O P g2
 obtain⟨X,K,p⟩: ∃X:d9,X=_/\St (· =d) h0 J [(z,.loop X),(A,.dfr),(w,.row [.bool true] 1),(m,.row [.slice (some ⟨d,0,none⟩) n n] 1),(d,.row (dy n f) 1)] []:=⟨_,rfl,p⟩
 have Q:Yld zM z (fun k t F=>St (· =d) h0 t [(z,.loop X),(A,.dfr),(w,.row [.bool true] 1),(m,.row [.slice (some ⟨d,0,none⟩) n n] 1),(d,.row (dy n (fun u=>decide (u∈xs.take k)||f u)) 1)] []/\k<=xs.length/\F=[z,A,w,m,d]) (fun _ _=>False) (xs.map fun(v:Nat)=>[.int .i64 (v:Nat)]):=by
  refine⟨?_,?_,fun _ _ h=>h.elim,?_⟩
  . rintro i h F ⟨S,_,rfl⟩;exact⟨S.ok,fun b l=>S.key_lt (by simpa [keys]using l)⟩
  . rintro i h F t ⟨S,a,rfl⟩ V;exact⟨S.call V,a,rfl⟩
  . rintro i x hR F C ⟨S,a,rfl⟩
    have q:i<xs.length:=by
     have:=(List.getElem?_eq_some_iff.1 C).1
     simpa using this
    rw [Xi,Xb q]at C
    cases C
    have s:=B _ (Xh q)
    have W:dy n (fun u=>decide (u∈xs.take (i+1))||f u)=(dy n (fun u=>decide (u∈xs.take i)||f u)).set xs[i] (.bool true):=by
     rw [xV]
     refine j8 fun j _=>?_
     rw [Xd q]
     simp only [Xw,XI]
     by_cases Y:j=xs[i]<;>by_cases Z:j∈xs.take i<;>simp [Y,Z]
    rw [W]
    generalize xs[i]=x at s
    subst K
    refine fH (S.get m0) (by rw [Tryz.e237];rfl) rfl ?_
    have S0:=S
    replace S:=S.base
    simp only [BS,LB,Nat.reduceLT,Nat.reduceEqDiff]
    refine eI S (i:=0) rfl rfl rfl rfl rfl ?_
    clear S;intro h S
    simp only [LC]at S
    simp only [BS,LB,Nat.reduceLT,Nat.reduceEqDiff,F0L,s,S.ld (b:=m) (o:=0) m3 rfl,S.ld (b:=w) (o:=0) m2 rfl]
    refine az (ay S (i:=4) rfl Tryz.t4.2.2.1 mq (by rw [pZ];exact s) ono) ?_
    clear S;rintro h ⟨S,_⟩
    simp only [LC]at S
    simp only [BS]
    refine dl S (i:=0) rfl ?_
    clear S;intro h S
    simp only [LC]at S
    refine .inl ⟨rfl,_,⟨S0.rebase S,by omega,rfl⟩,?_,fun c hc=>.inl hc⟩
    have:=S.fr
    simp only [keys,X2,X8,XG,XA]at this
    exact this
 refine ef (M z _ _ (fun _ _ h=>h) Q J [z,A,w,m,d] ?_ ⟨by rw [<-N];exact p,Xf _,rfl⟩) fun o rc t y=>iA y ?_
 . have kn:=S.fr.n
   refine⟨p.ok,p.fr.n,fun b l hd=>p.fr.get b l (fun e=>G (e▸hd)),fun b l h=>?_,fun b l=>p.key_lt (by simpa [keys]using l)⟩
   simp only [XK,Xt,or_false]at l
   rcases l with rfl|rfl|rfl|rfl|rfl
   . omega
   . omega
   . omega
   . omega
   . exact G h.2
 . rintro F ⟨T,_,rfl⟩
   rw [XC,Xo]at T
   subst K
   refine⟨_,T.get m0,XV,?_⟩
   replace T:=T.dead
   have S:=T
   show Run _ _ _ _ _ _ _ _
   simp only [BS,LB,Nat.reduceLT,Nat.reduceEqDiff,F0L,S.ld (b:=m) (o:=0) m2 rfl]
   refine df (eQ [A] _ (L:=[(w,_),(m,_),(d,_)]) T.base fun h4 S4=>?_)
   refine⟨rfl,(jt (by decide)).2 (dD.2 ?_)⟩
   have U:=T.rebase S4
   exact⟨U.fr,rfl,U.row m2⟩
theorem anyT_ok {h0:Hp} (M:h0.t.Sized h0.n) {d:Gra} (l:Good d) {N y b:Nat} {z:Value} {xs:List Nat} (A:aR h0 N (ptrTo y) d) (G:b<d.nodes) (B:au h0 1 bJ z xs) (m:xs=[b]):
 Ret zM 221 [ptrTo y,z] h0 fun r H=>Gr h0 H/\ ∃f,r=.slice (some ⟨f,0,none⟩) d.arcs.length d.arcs.length/\Row H f (dy d.arcs.length (iL d b)) 1/\h0.n<=f:=by
 have S:=Si M
 have I:=l.many
 have fL:=B.fl
 have hl:xs.length=1:=by rw [m];rfl
 refine ab (n:=32) (rs:=[.tmp 4]) rfl Tryz.e221 rfl rfl rfl (lbt rfl) ?_
 simp only [BS,LB,Nat.reduceLT,Nat.reduceEqDiff,FU]
 refine an (li S.ok A) ?_
 intro h1 O;replace S:=S.call O
 simp only [BS,LB,Nat.reduceLT,Nat.reduceEqDiff]
 have C:=S.gr
 have p:=S.ok
 clear S
 have S:=Si p
 rename Hp=>hA
 refine ae (jR (by exact Tryz.t63.1) (by exact Tryz.e4E) (by omega) (by omega)) S ?_;clear S;intro h f S q
 have P:aT [Value.bool false] d.arcs.length=dy d.arcs.length (fun a=>decide (0=1)&&iL d b a):=by
  rw [mI]
  unfold dy
  simp [XT]
 rw [Xe,P]at S
 simp only [BS,LB,Nat.reduceLT,Nat.reduceEqDiff,FU,Xe,B.lenq]
 refine aN (fun(i:Nat) k h=>i<=1/\St NoM hA h [(f,.row (dy d.arcs.length (fun a=>decide (i=1)&&iL d b a)) 1)] []/\k 0=ptrTo y/\k 5=.slice (some ⟨f,0,none⟩) d.arcs.length d.arcs.length/\k 13=z/\k 14=.int .i64 (xs.length:Nat)/\k 15=.int .i64 i) (fun i=>1-i) ?_ 0 _ _ ?_
 . clear S
   intro i Q k h ⟨hi,S,r0,r5,r13,r14,r15⟩
   have w:ao .i64 ((i:Int)+1)=((i+1:Nat):Int):=by rw [wrap64]<;>omega
   have D:=C.trans S.gr
   by_cases hlt:i<xs.length
   . have J:i=0:=by omega
     obtain⟨c,o,R,s⟩:=(B.gr D).ix (kd:=.i64) du hlt
     have T:xs[i]=b:=by subst m;subst J;rfl
     rw [T]at s
     replace s:h.load c o 1=some [.int .i64 (b:Nat)]:=s
     simp only [BS,LB,Nat.reduceLT,Nat.reduceEqDiff,FU,r0,r13,r14,r15,aB,hlt,R,s]
     refine an (AQ S.ok (A.gr D) G) ?_
     intro h2 U;replace S:=S.call U
     have hS:=S.gr
     have E:=(S.row (b:=f) m0).lt S.ok
     simp only [BS,LB,Nat.reduceLT,Nat.reduceEqDiff,FU,r0,r5]
     refine step_ret (tells_ok p S.ok S.gr (x:=f) q E l (A.gr C) G) ?_
     rintro v h3 ⟨K,V,W,rfl,n2,n5,hf⟩
     replace S:=S.call K
     have F:=S.ok
     simp only [BS,LB,Nat.reduceLT,Nat.reduceEqDiff]
     refine step_ret (marked_ok S.ok (n:=d.arcs.length) ip) ?_
     rintro v h4 ⟨t,X,Y,rfl,n1,n3,Z,y3⟩
     have it:=marked_it F t.ok t.keep t.n (x:=f) (by omega) (g:=246) (post:=#[ptrTo V,ptrTo W]) hf Z y3
     have kg:=K.n
     replace S:=S.call t
     simp only [BS,LB,Nat.reduceLT,Nat.reduceEqDiff]
     refine step_ret (putB_ok S.ok (S.row (b:=f) m0) (g:=245) (post:=#[ptrTo X,ptrTo Y]) it (fun h=>?_) (fun x hx=>List.mem_range.1 (List.mem_filter.1 hx).1) (Xg pF (by omega))) ?_
     . rcases h with h|h|h
       . omega
       . omega
       . exact h.2 rfl
     . rintro v h5 ⟨f5,rfl,R5⟩
       have L:=S.call1 (i:=0) (o':=.row _ 1) rfl f5 R5
       simp only [XH]at L
       simp only [BS,LB,Nat.reduceLT,Nat.reduceEqDiff,r15,w]
       refine Q (i+1) _ _ (by omega) ⟨by omega,?_,by simp [aa,r0,ag],by simp [aa],by simp [aa,r13],by simp [aa,r14],by simp [aa]⟩
       have e:dy d.arcs.length (fun a=>decide (i+1=1)&&iL d b a)=dy d.arcs.length (fun u=>decide (u∈(zO d.arcs.length).filter (iL d b))||(decide (i=1)&&iL d b u)):=j8 fun j hj=>by
        subst J
        simp [XD,hj]
       rw [e]
       exact L
   . have i1:i=1:=by omega
     simp only [BS,LB,ac,Nat.reduceLT,Nat.reduceEqDiff,r5,r14,r15,aB,hlt]
     refine⟨D,f,rfl,?_,by have:=C.n;omega⟩
     have e:dy d.arcs.length (iL d b)=dy d.arcs.length (fun a=>decide (i=1)&&iL d b a):=j8 fun j _=>by rw [decide_eq_true i1,XZ]
     rw [e]
     exact S.row m0
 . exact⟨Xf _,S,by simp [aa,bQ,ag],by simp [aa],by simp [aa],by simp [aa],by simp [aa]⟩
theorem arcsT_ok{h0:Hp}(j:h0.t.Sized h0.n){a:Gra}(d:Good a){k f b:Nat}(l:aR h0 k (ptrTo f) a)(m:b<a.nodes):
 Ret zM 184 [ptrTo f,.int .i64 (b:Nat)] h0 fun r g=>Gr h0 g/\ ∃c,r=.slice (some ⟨c,0,none⟩) a.arcs.length a.arcs.length/\Row g c (dy a.arcs.length (iL a b)) 1/\h0.n<=c:=by
 have S:=Si j
 refine ab (n:=9) (rs:=[.tmp 4]) rfl Tryz.e184 rfl rfl rfl (lbt rfl) ?_
 simp only [BS,LB,Nat.reduceLT,Nat.reduceEqDiff]
 refine ae (bH (by exact Tryz.t33.1) (by exact Xq) (by decide) (by rfl)) S ?_;clear S;intro h e S i;simp only [LC,aT,bz,ah,Nat.reduceMul,Nat.reduceAdd,Xr,Xj,Xn,Xv]at S
 simp only [BS,LB,Nat.reduceLT,Nat.reduceEqDiff]
 have p:au h 1 bJ (.slice (some ⟨e,0,none⟩) 1 1) [b]:=.inr ⟨e,0,none,1,rfl,Xk _,S.lds (b:=e) (o:=0) (n:=1*1) m0 (lbt rfl)⟩
 have s:=S.fr.n
 refine step_ret (anyT_ok S.ok d (l.gr S.gr) m p rfl) ?_
 rintro r t ⟨q,c,rfl,R,u⟩
 replace S:=S.call q
 simp only [BS,LB,ac,Nat.reduceLT,Nat.reduceEqDiff]
 exact⟨S.gr,c,rfl,R,by omega⟩
end Go.Ab
end
section
namespace Go.Ab
open Go.Proofs
set_option maxRecDepth 10000
def Tryz.F0M:=aj t1<|aj t2<|aj t3<|aj t4<|aj t5<|aj t6<|aj Z3<|aj Z0<|aj t32<|aj t149<|aj Z1<|t156
def Tryz.F1p:=aj t1<|aj t3<|aj t4<|aj Z0<|aj t32<|aj t33<|aj t66<|aj t149<|aj Z1<|Z6
def Tryz.F1q:=aj t1<|aj t3<|aj t4<|t63
def Tryz.FV:=aj t1<|aj t2<|aj t3<|aj t4<|aj t5<|aj t6<|aj Z3<|aj Z4<|aj Z0<|aj t32<|aj t33<|aj t63<|aj t66<|aj t149<|aj Z1<|aj t156<|aj Z6<|t269
def Own(B:Nat->Prop)(a h:Hp)(F:List Nat):Prop:=a.n<=h.n/\ ∀b,B b->b<a.n/\b∉F/\h.get b=a.get b
theorem Own.gr{B:Nat->Prop}{c h d:Hp}{F:List Nat}(o:Own B c h F)(g:Gr h d):Own B c d F:=
 ⟨Xg o.1 g.n,fun b a=>⟨(o.2 b a).1,(o.2 b a).2.1,(g.get b (Xc (o.2 b a).1 o.1)).trans (o.2 b a).2.2⟩⟩
theorem Own.mo{B:Nat->Prop}{a h c:Hp}{F F':List Nat}(o:Own B a h F)(m:Mo (· ∈F) h c)(f: ∀b∈F',b∈F\/h.n<=b):Own B a c F':=
 ⟨Xg o.1 m.n,fun b g=>by
  obtain⟨d,e,i⟩:=o.2 b g
  have hlt:=Xc d o.1
  exact⟨d,fun j=>(f b j).elim e (fun h=>by omega),(m.get b hlt e).trans i⟩⟩
section
variable{γ:Gra}{nb mb bp k:Nat}{p:Value}{m:List Int}{c:Nat->Nat}
theorem won_ok{h0 e:Hp}{D:Nat->Prop}(u:h0.t.Sized h0.n){L:Nat}{J:Nat->Hp->List Nat->Prop}{Z:Out->Hp->Prop}{xs:List (List Value)}(x:Good γ)(O: ∀v h,¬Z (.pan v) h)(Y:Yld zM L J Z xs){B:Nat->Prop}{b y:Nat}(z:B b)(P:e.load b 0 1=some [.func (.yield L) #[] #[]])(Q:D y)(R:h0.load y 0 1=some [ptrTo bp])(j: ∀h F,ItS h0 D h F->aR h nb (ptrTo bp) γ)
 {g:FuncId} {post:Array Value} {f:Nat->Bool} (A: ∀h F,ItS h0 D h F->Own B e h F-> ∀a,a<γ.arcs.length->aK zM g ([.int .i64 (a:Nat)]++post.toList) h (.bool (f a))) {l:Nat} (S: ∀a,a<γ.arcs.length->f a=true->xs[l+((zO a).filter f).length]? =some [.int .i64 (a:Nat)]) {h:Hp} {F:List Nat} (s:ItS h0 D h F) (o:Own B e h F) (q:J l h F):
 Ret zM 180 [.func (.func g) #[] post,ptrTo y,ptrTo b] h fun v t=>(v=.bool true/\ ∃F',ItS h0 D t F'/\Own B e t F'/\J (l+((zO γ.arcs.length).filter f).length) t F')\/(v=.bool false/\Z (.ret (.bool false)) t):=by
 have M:=x.many
 have T:=s.load u R Q
 refine ab (n:=21) (rs:=[.tmp 4]) rfl Tryz.e180 rfl rfl rfl (lbt rfl) ?_
 simp only [BS,LB,Nat.reduceLT,Nat.reduceEqDiff,F0M,T]
 refine an (li s.ok (j _ _ s)) ?_
 intro W C
 simp only [BS]
 refine aN (fun(i:Nat) r h=>i<=γ.arcs.length/\ ∃F,ItS h0 D h F/\Own B e h F/\J (l+((zO i).filter f).length) h F/\r 0=.func (.func g) #[] post/\r 2=ptrTo b/\r 7=.int .i64 (γ.arcs.length:Nat)/\r 8=.int .i64 i) (fun i=>γ.arcs.length-i) ?_ 0 _ _ ?_
 . intro i N r h ⟨hi,F,s,o,q,r0,r2,r7,r8⟩
   have w:ao .i64 ((i:Int)+1)=((i+1:Nat):Int):=by rw [wrap64]<;>omega
   by_cases hlt:i<γ.arcs.length
   . simp only [BS,LB,Nat.reduceLT,Nat.reduceEqDiff,r0,r7,r8,aB,hlt]
     refine an (A _ _ s o i hlt) ?_
     intro X d
     have E:=kL P ((o.gr d).2 b z).2.2
     cases G:f i with
     | true=>
       have H:((zO (i+1)).filter f).length=((zO i).filter f).length+1:=by rw [jf,if_pos G];simp
       simp only [BS,LB,Nat.reduceLT,Nat.reduceEqDiff,F0M,r2,E]
       refine cy Y (s.gr d) (Y.gr _ _ _ _ q d) (i:=l+((zO i).filter f).length) (S i hlt G) ?_ ?_ ?_
       . intro I U a V m3 K
         simp only [BS,LB,Nat.reduceLT,Nat.reduceEqDiff,r8,w]
         exact N (i+1) _ _ (by omega) ⟨by omega,U,V,(o.gr d).mo m3 K,by rw [H];exact a,by simp [aa,r0],by simp [aa,r2,ag],by simp [aa,r7],by simp [aa]⟩
       . intro I a _
         simp only [BS,LB,ac,Nat.reduceLT,Nat.reduceEqDiff]
         exact .inr a
       . intro v I a
         exact absurd a (O v I)
     | false=>
       have H:(zO (i+1)).filter f=(zO i).filter f:=by rw [jf,if_neg (by rw [G];decide)];simp
       simp only [BS,LB,Nat.reduceLT,Nat.reduceEqDiff,r8,w]
       exact N (i+1) _ _ (by omega) ⟨by omega,F,s.gr d,o.gr d,by rw [H];exact Y.gr _ _ _ _ q d,by simp [aa,r0],by simp [aa,r2,ag],by simp [aa,r7],by simp [aa]⟩
   . have:i=γ.arcs.length:=by omega
     subst this
     simp only [BS,LB,ac,Nat.reduceLT,Nat.reduceEqDiff,r7,r8,aB,hlt]
     exact .inl ⟨F,s,o,q⟩
 . exact⟨Xf _,F,s.gr C,o.gr C,Y.gr _ _ _ _ q C,by simp [aa,bQ],by simp [aa,bQ,ag],by simp [aa],by simp [aa]⟩
theorem worth_ok{h0:Hp}(g:h0.t.Sized h0.n)(i:Fl p):Ret zM 116 [ptrTo bp,p,.int .i64 (k:Nat)] h0 fun v f=>Gr h0 f/\ ∃a b4 b5,v=.func (.func 179) #[] #[ptrTo a,ptrTo b4,ptrTo b5]/\h0.n<=a/\h0.n<=b4/\h0.n<=b5/\f.load a 0 1=some [ptrTo bp]/\f.load b4 0 1=some [p]/\f.load b5 0 1=some [.int .i64 (k:Nat)]:=by
 have S:=Si g
 refine ab (n:=8) (rs:=[.tmp 6]) rfl Tryz.e116 rfl rfl rfl (lbt rfl) ?_
 simp only [BS,Nat.reduceLT]
 refine ae (bF (by exact cI)) S ?_;clear S;intro h a S b
 simp only [BS,Nat.reduceLT,Nat.reduceEqDiff,if_false]
 refine ae (bF (by assumption)) S ?_;clear S;intro h b4 S d
 simp only [BS,Nat.reduceLT,Nat.reduceEqDiff,if_false]
 refine ae (bF (by exact aU)) S ?_;clear S;intro h b5 S e
 simp only [BS,LB,ac,Nat.reduceLT,Nat.reduceEqDiff]
 exact⟨S.gr,a,b4,b5,rfl,b,d,e,S.ld m2 rfl,S.ld m1 rfl,S.ld m0 rfl⟩
def insB(γ:Gra)(c:Nat->Nat)(k a:Nat):Bool:=decide (c (γ.arcs.getD a default).s=k/\c (γ.arcs.getD a default).t=k)
theorem worth2_ok{h:Hp}(e:h.t.Sized h.n)(b:Good γ)(f:aR h nb (ptrTo bp) γ)(x:fm h mb p γ.nodes m c){d b4 b5:Nat}(g:h.load d 0 1=some [ptrTo bp])(i:h.load b4 0 1=some [p])(j:h.load b5 0 1=some [.int .i64 (k:Nat)]){a:Nat}(l:a<γ.arcs.length):
 aK zM 181 ([.int .i64 (a:Nat)]++[ptrTo d,ptrTo b4,ptrTo b5]) h (.bool (insB γ c k a)):=by
 refine ab (n:=11) (rs:=[.tmp 5]) rfl Tryz.e181 rfl rfl rfl (lbt rfl) ?_
 simp only [BS,LB,Nat.reduceLT,Nat.reduceEqDiff,F1p,g,i,j]
 refine an (inside_ok (N:=0) e b f x l) ?_
 intro q o
 simp only [BS,LB,ac,Nat.reduceLT,Nat.reduceEqDiff]
 exact⟨rfl,o⟩
theorem worth3_ok{h:Hp}(g:h.t.Sized h.n){b d n:Nat}{f:Nat->Bool}(i:h.load b 0 1=some [.slice (some ⟨d,0,none⟩) n n])(R:Row h d (dy n f) 1){a:Nat}(e:a<n):
 aK zM 185 ([.int .i64 (a:Nat)]++[ptrTo b]) h (.bool (f a)):=by
 have S:=Si g
 have j:=R.load1 (bolC_at (f:=f) e)
 have l:(a:Int)<(n:Int):=by omega
 refine ab (n:=14) (rs:=[.tmp 3]) rfl Tryz.e185 rfl rfl rfl (lbt rfl) ?_
 simp only [BS,LB,ac,Nat.reduceLT,Nat.reduceEqDiff,F1q,i,l,e,j]
 exact S.gr
theorem flat_at{α a:Type}{f:α->List a}{l:List α}{j q:Nat}{x:a}(b:j<l.length)(h:(f l[j])[q]? =some x):(l.flatMap f)[((l.take j).flatMap f).length+q]? =some x:=by
 have e:l=l.take j++l[j]::l.drop (j+1):=by rw [<-XN b,List.take_append_drop]
 conv=>lhs;rw [e]
 rw [X7,List.flatMap_cons,Xu (by simp)]
 have d:=(List.getElem?_eq_some_iff.1 h).1
 have g:(Xy j l++l[j]::Xz (j+1) l).take j=l.take j:=by rw [<-e]
 rw [g,XR,Xm d]
 exact h
noncomputable def nu(γ:Gra)(b:Nat):List Nat:=(zO γ.arcs.length).filter (iL γ b)
noncomputable def cZ(γ:Gra)(c:Nat->Nat)(k:Nat):List Nat:=(zO γ.arcs.length).filter (insB γ c k)++((zO γ.nodes).filter (borB γ c k)).flatMap (nu γ)
theorem worth1_it {hq h0:Hp} (K:hq.t.Sized hq.n) (t:h0.t.Sized h0.n) (kq:dT hq h0) (nq:hq.n<=h0.n) (y:Good γ) (hn:aR hq nb (ptrTo bp) γ) (x:fm hq mb p γ.nodes m c) {z b4 b5:Nat} (M:h0.load z 0 1=some [ptrTo bp]) (e4:h0.load b4 0 1=some [p]) (e5:h0.load b5 0 1=some [.int .i64 (k:Nat)]):
 lE zM 179 [] [ptrTo z,ptrTo b4,ptrTo b5] h0 (fun c=>c=z\/c=b4\/c=b5\/c<hq.n) ((cZ γ c k).map fun(a:Nat)=>[.int .i64 (a:Nat)]):=by
 intro lb J Z hz Y h F s N
 have n2:=y.n2
 have fp:Fl p:=by obtain⟨b,_,rfl,_⟩:=x.at0;exact cI
 have kN: ∀h F,ItS h0 (fun c=>c=z\/c=b4\/c=b5\/c<hq.n) h F->dT hq h:=fun h F s=>s.keep kq nq (fun c X=>.inr (.inr (.inr X)))
 have u: ∀h F,ItS h0 (fun c=>c=z\/c=b4\/c=b5\/c<hq.n) h F->aR h nb (ptrTo bp) γ:=fun h F s=>hn.keep K (kN h F s)
 have C: ∀h F,ItS h0 (fun c=>c=z\/c=b4\/c=b5\/c<hq.n) h F->fm h mb p γ.nodes m c:=fun h F s=>x.keep K (kN h F s)
 have ad: ∀a,a<γ.arcs.length->insB γ c k a=true->((cZ γ c k).map fun(a:Nat)=>[Value.int .i64 (a:Nat)])[0+((zO a).filter (insB γ c k)).length]? =some [.int .i64 (a:Nat)]:=fun a E q=>by
  have R:=q8 q _ E
  unfold cZ
  rw [Xj,Xi,Xm (List.getElem?_eq_some_iff.1 R).1,R];rfl
 have S:=Si s.ok
 refine enter (n:=31) (rs:=[]) rfl Tryz.e179 rfl rfl rfl (lbt rfl) ?_
 simp only [BS,LB,Nat.reduceLT]
 refine ae (bF (by exact ip)) S ?_;clear S;intro h l S af
 have s1:=s.gr S.gr
 have j1:=Y.gr _ _ _ _ N S.gr
 have zy:=(S.row (b:=l) m0).lt S.ok
 have ly:=S.ld (b:=l) (o:=0) m0 rfl
 have o1:Own (· =l) _ _ F:=⟨Xk _,fun b q=>⟨by subst q;exact zy,fun D=>by subst q;have:=s.lt _ D;omega,rfl⟩⟩
 simp only [BS,LB,Nat.reduceLT,Nat.reduceEqDiff]
 refine step_ret (won_ok t y hz Y (B:=(· =l)) rfl ly (.inl rfl) M u (g:=181) (post:=#[ptrTo z,ptrTo b4,ptrTo b5]) (f:=insB γ c k) (fun h F s _ a E=>worth2_ok s.ok y (u _ _ s) (C _ _ s) (s.load t M (.inl rfl)) (s.load t e4 (.inr (.inl rfl))) (s.load t e5 (.inr (.inr (.inl rfl)))) E) ad s1 o1 j1) ?_
 rintro v h2 (⟨rfl,F2,A,o2,j2⟩|⟨rfl,z2⟩)
 . simp only [BS,LB,Nat.reduceLT,Nat.reduceEqDiff,FV,A.load t M (.inl rfl),A.load t e4 (.inr (.inl rfl)),A.load t e5 (.inr (.inr (.inl rfl)))]
   refine step_ret (border_ok A.ok y (u _ _ A) (C _ _ A) (k:=k)) ?_
   rintro H O ⟨gB,T,nB⟩
   have sA:=A.gr gB
   have jA:=Y.gr _ _ _ _ j2 gB
   have U:=o2.gr gB
   have lB:O.load l 0 1=some [.func (.yield lb) #[] #[]]:=kL ly (U.2 l rfl).2.2
   have ai:l<O.n:=Xc zy U.1
   have oB:Own (fun c=>c=l\/ar H c) O O F2:=⟨Xk _,fun b q=>⟨q.elim (fun e=>by subst e;exact ai) (fun h=>T.lt sA.ok h),fun D=>q.elim (fun e=>(U.2 b e).2.1 D) (fun h=>by have:=nB b h;have:=A.lt b D;omega),rfl⟩⟩
   generalize V:(zO γ.nodes).filter (borB γ c k)=L at T
   have ak: ∀b∈L,b<γ.nodes:=fun b q=>by rw [<-V]at q;exact List.mem_range.1 (List.mem_filter.1 q).1
   have aL:L.length<=γ.nodes:=by rw [<-V];exact pF
   simp only [BS,LB,Nat.reduceLT,Nat.reduceEqDiff,FV,T.lenq]
   refine aN (fun(j:Nat) I h=>j<=L.length/\ ∃F,ItS h0 (fun c=>c=z\/c=b4\/c=b5\/c<hq.n) h F/\Own (fun c=>c=l\/ar H c) O h F/\J (((zO γ.arcs.length).filter (insB γ c k)).length+((L.take j).flatMap (nu γ)).length) h F/\I 1=ptrTo z/\I 5=.func (.func 180) #[] #[ptrTo z,ptrTo l]/\I 17=H/\I 18=.int .i64 (L.length:Nat)/\I 19=.int .i64 j) (fun j=>L.length-j) ?_ 0 _ _ ?_
   . clear S s1 j1 o1 A j2 o2 sA jA U oB
     intro j ih I h ⟨hj',F,s,o,N,r1,r5,r17,r18,r19⟩
     have w:ao .i64 ((j:Int)+1)=((j+1:Nat):Int):=by rw [wrap64]<;>omega
     by_cases hlt:j<L.length
     . have q:=ak _ (Xh hlt)
       have sl:au h 1 bJ H L:=sl_get T (fun c X=>(o.2 c (.inr X)).2.2)
       obtain⟨d,oo,x0,W⟩:=sl.ix (kd:=.i64) du hlt
       have P: ∀a,a<γ.arcs.length->iL γ L[j] a=true->((cZ γ c k).map fun(a:Nat)=>[Value.int .i64 (a:Nat)])[((zO γ.arcs.length).filter (insB γ c k)).length+((L.take j).flatMap (nu γ)).length+((zO a).filter (iL γ L[j])).length]? =some [.int .i64 (a:Nat)]:=fun a E q=>by
        have R:(nu γ L[j])[((zO a).filter (iL γ L[j])).length]? =some a:=q8 q _ E
        unfold cZ
        rw [V,Xi,X3,Xu (by omega),XR,flat_at hlt R];rfl
       have tk:((L.take (j+1)).flatMap (nu γ)).length=((L.take j).flatMap (nu γ)).length+((zO γ.arcs.length).filter (iL γ L[j])).length:=by
        rw [Xd hlt,X7,Xp]
        simp [nu]
       generalize L[j]=b at q W P tk
       replace W:h.load d oo 1=some [.int .i64 (b:Nat)]:=W
       simp only [BS,LB,Nat.reduceLT,Nat.reduceEqDiff,FV,r1,r17,r18,r19,aB,hlt,x0,W,s.load t M (.inl rfl)]
       refine step_ret (arcsT_ok s.ok y (u _ _ s) q) ?_
       rintro r h4 ⟨g4,bl,rfl,R4,nl⟩
       have S:=Si g4.ok
       simp only [BS,FV]
       refine ae ax S ?_;clear S;intro h Q S al
       simp only [BS,LB,Nat.reduceLT,Nat.reduceEqDiff]
       refine az (ay S (i:=0) rfl Tryz.t63.2.2.1 a9 (Xl (lbt rfl)) ono) ?_
       clear S;rintro h5 ⟨S,_⟩
       simp only [LC]at S
       have g5:=g4.trans S.gr
       have s5:=s.gr g5
       have j5:=Y.gr _ _ _ _ N g5
       have G:=o.gr g5
       have R8:=S.row (b:=Q) m0
       have Rl:=R4.gr S.gr
       have k4:=g4.n
       have oC:Own (fun c=>(c=l\/ar H c)\/c=Q\/c=bl) h5 h5 F:=⟨Xk _,fun b q=>by
        rcases q with q|rfl|rfl
        . exact⟨Xc (G.2 b q).1 G.1,(G.2 b q).2.1,rfl⟩
        . exact⟨R8.lt S.ok,fun D=>by have:=s.lt _ D;omega,rfl⟩
        . exact⟨Rl.lt S.ok,fun D=>by have:=s.lt _ D;omega,rfl⟩⟩
       have l5:h5.load l 0 1=some [.func (.yield lb) #[] #[]]:=kL lB (G.2 l (.inl rfl)).2.2
       simp only [BS,LB,Nat.reduceLT,Nat.reduceEqDiff,r5]
       refine step_ret (won_ok t y hz Y (B:=fun c=>(c=l\/ar H c)\/c=Q\/c=bl) (.inl (.inl rfl)) l5 (.inl rfl) M u (g:=185) (post:=#[ptrTo Q]) (f:=iL γ b) (fun h F s o a E=>worth3_ok s.ok (kL (R8.load1 (o:=0) rfl) (o.2 Q (.inr (.inl rfl))).2.2) (Row.of_get (o.2 bl (.inr (.inr rfl))).2.2 Rl) E) P s5 oC j5) ?_
       rintro v h6 (⟨rfl,F6,s6,o6,j6⟩|⟨rfl,z6⟩)
       . simp only [BS,LB,Nat.reduceLT,Nat.reduceEqDiff,r19,w]
         refine ih (j+1) _ _ (by omega) ⟨by omega,F6,s6,⟨Xg G.1 o6.1,fun b q=>⟨(G.2 b q).1,(o6.2 b (.inl q)).2.1,(o6.2 b (.inl q)).2.2.trans (G.2 b q).2.2⟩⟩,by rw [tk,<-X3];exact j6,by simp [aa,r1,ag],by simp [aa,r5],by simp [aa,r17],by simp [aa,r18],by simp [aa]⟩
       . simp only [BS,LB,Nat.reduceLT,Nat.reduceEqDiff]
         exact fk rfl ⟨rfl,.inr (.inl ⟨_,rfl,z6⟩)⟩
     . have:j=L.length:=by omega
       subst this
       simp only [BS,LB,Nat.reduceLT,r18,r19,aB,hlt]
       refine bO (cB ⟨rfl,_,rfl,rfl,.inl ⟨_,F,rfl,?_⟩⟩)
       rw [Xo]at N
       rw [XC]
       unfold cZ
       rw [Xp,V]
       exact N
   . exact⟨Xf _,F2,sA,oB,by simpa using jA,by simp [aa,bQ,ag],by simp [aa,ag],by simp [aa],by simp [aa],by simp [aa]⟩
 . simp only [BS,LB,Nat.reduceLT,Nat.reduceEqDiff]
   exact fk rfl ⟨rfl,.inr (.inl ⟨_,rfl,z2⟩)⟩
end
end Go.Ab

end
section
namespace Go.Ab
open Go.Proofs
set_option maxRecDepth 10000
def Tryz.Fu:=aj t1<|aj t2<|aj t3<|aj t4<|aj t5<|aj t6<|aj Z3<|aj Z4<|aj t9<|aj t10<|aj t11<|aj t22<|aj t23<|aj t24<|aj t26<|aj r26<|aj Z0<|aj t32<|aj t33<|aj t66<|aj t67<|aj t149<|aj Z1<|aj Z6<|aj t201<|Z10
def OkB(e:Gra)(c:Nat->Nat)(b k i:Nat)(B:Nat->Nat):Prop:= ∀d a,a<e.arcs.length->(fK B b d a=true↔(d<k/\a∈cZ e c d)\/(d=k/\a∈(cZ e c k).take i))
theorem OkB.zero{d:Gra}{c:Nat->Nat}{b:Nat}:OkB d c b 0 0 (fun _=>0):=fun e a _=>by simp [fK]
theorem OkB.next{f:Gra}{c:Nat->Nat}{b k:Nat}{B:Nat->Nat}(o:OkB f c b k (cZ f c k).length B):OkB f c b (k+1) 0 B:=fun g a h=>by
 rw [o g a h,Xo]
 simp only [List.take_zero,Xt,and_false,or_false]
 constructor
 . rintro(⟨i,d⟩|⟨rfl,d⟩)
   . exact⟨by omega,d⟩
   . exact⟨by omega,d⟩
 . rintro⟨i,d⟩
   by_cases e:g=k
   . subst e;exact .inr ⟨rfl,d⟩
   . exact .inl ⟨by omega,d⟩
theorem OkB.set{d:Gra}{c:Nat->Nat}{b k i:Nat}{B:Nat->Nat}(n:b=(d.arcs.length+7)/8)(o:OkB d c b k i B)(l:i<(cZ d c k).length)(hlt:(cZ d c k)[i]<d.arcs.length):OkB d c b k (i+1) (bT B (k*b+(cZ d c k)[i]/8) (setB (B (k*b+(cZ d c k)[i]/8)) ((cZ d c k)[i]%8))):=fun j a m=>by
 rw [bitB_set (by omega) (by omega),Xd l]
 by_cases e:j=k/\a=(cZ d c k)[i]
 . rw [if_pos e]
   obtain⟨rfl,e⟩:=e
   subst e
   exact⟨fun _=>.inr ⟨rfl,List.mem_append.2 (.inr (List.mem_singleton.2 rfl))⟩,fun _=>rfl⟩
 . rw [if_neg e,o j a m]
   simp only [Xw,XI]
   constructor
   . rintro(h|⟨g,f⟩)
     . exact .inl h
     . exact .inr ⟨g,.inl f⟩
   . rintro(h|⟨g,f|f⟩)
     . exact .inl h
     . exact .inr ⟨g,f⟩
     . exact absurd ⟨g,f⟩ e
theorem worthL_lt{d:Gra}{c:Nat->Nat}{k a:Nat}(h:a∈cZ d c k):a<d.arcs.length:=by
 unfold cZ at h
 rcases List.mem_append.1 h with h|h
 . exact List.mem_range.1 (List.mem_filter.1 h).1
 . obtain⟨b,_,h⟩:=List.mem_flatMap.1 h
   exact List.mem_range.1 (List.mem_filter.1 h).1
theorem perm_db{α:Type}{x a b d:α}{l:List α}:List.Perm (x::([a,b]++(d::l))) ([d,x,a,b]++l):=by
 show List.Perm ([x,a,b]++d::l) (d::([x,a,b]++l))
 exact List.perm_middle
theorem vZ{L:List (Nat×Ob)}{a:List Nat}:keys (L++c5 a) []=L.map Prod.fst++a:=by
 simp [keys,c5,XM]
theorem ofB_ok {h0:Hp} (ok:h0.t.Sized h0.n) {q:Gra} {nb mb bp cb:Nat} {m:List Int} {c:Nat->Nat} {M:Nat} (D:Good q) (hn:aR h0 nb (ptrTo bp) q) (x:fm h0 mb (ptrTo cb) q.nodes m c) (hM:gb m+1=(M:Int)) (R:M<=100):
 Ret zM 55 [ptrTo bp,ptrTo cb] h0 fun r O=>Gr h0 O/\ ∃t f B,r=ptrTo t/\h0.n<=t/\h0.n<=f/\t≠f/\ik O t f M q.arcs.length ((q.arcs.length+7)/8) B/\OkB q c ((q.arcs.length+7)/8) M 0 B:=by
 have S:=Si ok
 have n1:=D.n1
 have n2:=D.n2
 have ak:=D.many
 have xl:=x.len
 have co: ∀{h},Gr h0 h->jW h (ptrTo cb) m (M:Int):=fun g=>.inr ⟨⟨_,(x.gr g).at0⟩,by rw [hM]⟩
 refine ab (n:=33) (rs:=[.tmp 4]) rfl Tryz.e55 rfl rfl rfl (lbt rfl) ?_
 simp only [BS,LB,Nat.reduceLT,Nat.reduceEqDiff]
 refine an (xq S.ok hn (co S.gr) n1 (by omega)) ?_
 intro h1 g1;replace S:=S.call g1
 simp only [BS,LB,Nat.reduceLT,Nat.reduceEqDiff,xl]
 refine an (uK S.ok (co S.gr)) ?_
 intro P U;replace S:=S.call U
 simp only [BS,LB,Nat.reduceLT,Nat.reduceEqDiff]
 refine an (li S.ok (hn.gr S.gr)) ?_
 intro h3 g3;replace S:=S.call g3
 simp only [BS,LB,Nat.reduceLT,Nat.reduceEqDiff]
 refine step_ret (bmNew_ok S.ok R (by omega)) ?_
 rintro r z ⟨V,t,f,rfl,nf,a0,H,W⟩
 have k3:=S.gr.n
 have a1:=S.ok
 have gq:=S.gr.trans V
 have kN:=V.n
 have gS:=S.gr
 clear S
 have S:St (· =f) z z [(f,.row _ 1)] []:=St.init1 V.ok (o:=.row _ 1) W.b
 have zf:=W.b.lt V.ok
 have zp:=W.r.lt V.ok
 simp only [BS,Fu]
 refine ae ax S ?_;clear S;intro h u S al
 simp only [BS,LB,Nat.reduceLT,Nat.reduceEqDiff]
 refine az (ay S (i:=0) rfl ?_ ?_ ?_ ono) ?_
 . exact(by simp only [Fu])
 . exact(by exact cI)
 . exact Xl (lbt rfl)
 clear S;rintro h ⟨S,mo⟩;clear mo;simp only [LC,ah,lay,Xy,Xz,Nat.reduceAdd]at S
 simp only [BS,LB,Nat.reduceLT,Nat.reduceEqDiff]
 have gO: ∀{h:Hp} {L:List (Nat×Ob)} {G:List GL},St (· =f) z h L G->Gr h0 h:=fun S=>(gq.fr.trans S.fr (fun b e=>.inr (by subst e;omega)):Mo NoM _ _).gr
 have kO: ∀{h:Hp} {L:List (Nat×Ob)} {G:List GL},St (· =f) z h L G->ik z t f M q.arcs.length ((q.arcs.length+7)/8) (fun _=>0)->Row h t [.int .i64 M,.int .i64 q.arcs.length,.int .i64 ((q.arcs.length+7)/8:Nat),.slice (some ⟨f,0,none⟩) (M*((q.arcs.length+7)/8)) (M*((q.arcs.length+7)/8))] 1:=fun S b=>Row.of_get (S.fr.get t zp H) b.r
 have hr:=fun {h:Hp} {L:List (Nat×Ob)} {G:List GL} (S:St (· =f) z h L G)=>kO S W
 refine an (uK S.ok (co (gO S))) ?_
 intro h4 g4;replace S:=S.call g4
 simp only [BS]
 generalize A:(q.arcs.length+7)/8=l at*
 refine pd (fun(k:Nat) Q d h=>k<=M/\ ∃p B,d=p.map oZ/\St (· =f) z h ([(u,.row [ptrTo t] 1),(f,.row (i7 (M*l) B) 1)]++c5 p) []/\(∀j,B j<256)/\OkB q c l k 0 B/\Q 0=ptrTo bp/\Q 1=ptrTo cb/\Q 5=ptrTo u/\Q 18=.int .i64 (M:Nat)/\Q 19=.int .i64 k) (fun k=>M-k) ?_ 0 _ _ _ ?_
 . clear S g4
   rintro k ih Q d h ⟨hk,p,B,rfl,S,hB,oB,r0,r1,r5,r18,r19⟩
   have w:ao .i64 ((k:Int)+1)=((k+1:Nat):Int):=by rw [wrap64]<;>omega
   by_cases hlt:k<M
   . simp only [BS,LB,Nat.reduceLT,Nat.reduceEqDiff,Fu,r18,r19,aB,hlt]
     refine ae ax S ?_;clear S;intro h C S aL
     simp only [BS,LB,Nat.reduceLT,Nat.reduceEqDiff]
     refine az (ay S (i:=0) rfl ?_ ?_ ?_ ono) ?_
     . exact(by simp only [Fu])
     . exact(by exact aU)
     . exact Xl (lbt rfl)
     clear S;rintro h ⟨S,mo⟩;clear mo;simp only [LC,ah,lay,Xy,Xz,Nat.reduceAdd]at S
     simp only [BS,LB,Nat.reduceLT,Nat.reduceEqDiff,Fu,r0,r1,S.ld (b:=C) (o:=0) m0 rfl]
     refine step_ret (worth_ok S.ok (k:=k) cI) ?_
     rintro v hW ⟨gW,w3,w4,w5,rfl,n3,n4,n5,e3,e4,e5⟩
     have kk: ∀b∈[C,u,f]++p,h0.n<=b/\b<w3/\b<w4/\b<w5/\b<hW.n:=fun b s=>by
      have hm:b∈keys ([(C,Ob.row [.int .i64 (k:Nat)] 1),(u,.row [ptrTo t] 1),(f,.row (i7 (M*l) B) 1)]++c5 p) []:=by rw [vZ];exact s
      have h1:=S.key_lt hm
      have P:=S.key_own hm
      have h3:=gW.n
      have h4:h0.n<=b:=P.elim (fun h=>by omega) (fun h=>by subst h;omega)
      omega
     replace S:=S.call gW
     have a2:=gW.n
     have Y:=gO S
     have zN:=S.fr.n
     have it:=worth1_it ok S.ok Y.keep Y.n D hn x e3 e4 e5
     simp only [BS]
     refine fu S (g:=179) (a:=#[]) (b:=#[ptrTo w3,ptrTo w4,ptrTo w5]) (by simp [bS,aa,ag]) rfl rfl ?_
     intro P E I Z a3 a4 U
     obtain⟨X,hX,Z⟩: ∃X:d9,X=_/\St (· =f) z P ([(I,.loop X),(E,.dfr),(C,.row [.int .i64 (k:Nat)] 1),(u,.row [ptrTo t] 1),(f,.row (i7 (M*l) B) 1)]++c5 p) []:=⟨_,rfl,Z⟩
     have hJ:Yld zM I (fun i O F=> ∃B,St (· =f) z O ([(I,.loop X),(E,.dfr),(C,.row [.int .i64 (k:Nat)] 1),(u,.row [ptrTo t] 1),(f,.row (i7 (M*l) B) 1)]++c5 p) []/\(∀j,B j<256)/\OkB q c l k i B/\F=[I,E,C,u,f]++p) (fun _ _=>False) ((cZ q c k).map fun(a:Nat)=>[.int .i64 (a:Nat)]):=by
      refine⟨?_,?_,fun _ _ h=>h.elim,?_⟩
      . rintro i h F ⟨B,S,_,_,rfl⟩;exact⟨S.ok,fun b s=>S.key_lt (by rw [vZ];exact s)⟩
      . rintro i h F O ⟨B,S,a,b,rfl⟩ gg;exact⟨B,S.call gg,a,b,rfl⟩
      . rintro i x hR F J ⟨B,S,hB,oB,rfl⟩
        have K:i<(cZ q c k).length:=by
         have:=(List.getElem?_eq_some_iff.1 J).1
         simpa using this
        rw [Xi,Xb K]at J
        cases J
        have N:(cZ q c k)[i]<q.arcs.length:=worthL_lt (Xh K)
        have ad:=oB.set A.symm K N
        generalize(cZ q c k)[i]=a at N ad
        subst hX
        refine fH (S.get m0) (by rw [Tryz.e55];rfl) rfl ?_
        have S0:=S
        replace S:=S.base
        simp only [BS,LB,Nat.reduceLT,Nat.reduceEqDiff]
        refine eI S (i:=0) rfl rfl rfl rfl rfl ?_
        clear S;intro h S
        simp only [LC]at S
        simp only [BS,LB,Nat.reduceLT,Nat.reduceEqDiff,Fu,r5,S.ld (b:=C) (o:=0) m2 rfl,S.ld (b:=u) (o:=0) m3 rfl]
        have BA:ik h t f M q.arcs.length l B:=⟨hr (S0.rebase S),S.row (b:=f) m4,hB⟩
        refine step_ret (bSet_ok S.ok BA H hlt N R (by omega) A.symm) ?_
        rintro v h5 ⟨f5,rfl,B5⟩
        have S5:=S.call1 (i:=4) (o':=.row _ 1) rfl f5 B5.b
        simp only [XH,List.set_cons_succ]at S5
        clear S
        simp only [BS]
        refine dl S5 (i:=0) rfl ?_
        clear S5;intro h S
        simp only [LC]at S
        refine .inl ⟨rfl,_,⟨_,S0.rebase S,B5.lt,ad,rfl⟩,?_,fun c hc=>.inl hc⟩
        exact S.fr.mono fun b s=>by simpa [keys,c5,XM]using s
     refine ef (it I _ _ (fun _ _ h=>h) hJ P ([I,E,C,u,f]++p) ?_ ⟨B,Z,hB,oB,rfl⟩) fun o rc O y=>iA y ?_
     . have kn:=U.n
       refine⟨Z.ok,U.n,fun b s hd=>U.get b s,fun b s h=>?_,fun b s=>Z.key_lt (by simpa [keys,c5,XM]using s)⟩
       simp only [Xw,XK,Xt,or_false]at s
       obtain⟨h1,P⟩:=h
       have J:b=I\/b=E\/b∈[C,u,f]++p:=by
        rcases s with(s|s|s)|s
        . exact .inl s
        . exact .inr (.inl s)
        . exact .inr (.inr (List.mem_append.2 (.inl (by simpa using s))))
        . exact .inr (.inr (List.mem_append.2 (.inr s)))
       rcases J with rfl|rfl|J
       . omega
       . omega
       . have:=kk b J
         omega
     . rintro F ⟨B1,T,ai,af,rfl⟩
       rw [XC]at af
       subst hX
       refine⟨_,T.get m0,XV,?_⟩
       replace T:=T.dead
       show Run _ _ _ _ _ _ _ _
       have T1:St (· =f) z _ ([(E,.dfr),(C,.row [.int .i64 (k:Nat)] 1),(u,.row [ptrTo t] 1),(f,.row (i7 (M*l) B1) 1)]++c5 p) []:=T
       have T':St (· =f) z _ ([(u,.row [ptrTo t] 1),(f,.row (i7 (M*l) B1) 1)]++(E,.dfr)::c5 p) []:=(T1.permL perm_db).drop1
       simp only [BS,LB,Nat.reduceLT,Nat.reduceEqDiff,r19,w]
       exact ih (k+1) _ _ _ (by omega) ⟨by omega,E::p,B1,rfl,T',ai,af.next,by simp [aa,r0,ag],by simp [aa,r1,ag],by simp [aa,r5,ag],by simp [aa,r18],by simp [aa]⟩
   . have:k=M:=by omega
     subst this
     have gE:=gO S
     have S0:=S
     simp only [LC]at S
     simp only [BS,LB,Nat.reduceLT,Nat.reduceEqDiff,Fu,r5,r18,r19,aB,hlt,S.ld (b:=u) (o:=0) m0 rfl]
     refine df (eQ p _ (L:=[(u,_),(f,_)]) (S0.permL List.perm_append_comm) fun h4 S4=>?_)
     refine⟨rfl,(jt (by decide)).2 (dD.2 ?_)⟩
     refine⟨gO S4,t,f,B,?_,by omega,by omega,H,⟨hr S4,S4.row m1,hB⟩,oB⟩
     exact rfl
 . exact⟨Xf _,[],_,rfl,S,W.lt,OkB.zero,by simp [aa,bQ,ag],by simp [aa,bQ,ag],by simp [aa,ag],by simp [aa],by simp [aa]⟩
def Tryz.F0N:=aj t1<|aj t2<|aj t3<|aj t4<|aj t5<|aj t6<|aj Z3<|aj Z4<|aj t9<|aj t22<|aj t33<|aj t63<|aj t67<|Z10
theorem allowF_ok{h0:Hp}(N:h0.t.Sized h0.n){I O l f g k:Nat}{B:Nat->Nat}(m:ik h0 I O l f g B)(P:k<l)(p:l<=100)(q:f<=1000)(s:g=(f+7)/8):
 Ret zM 60 [ptrTo I,.int .i64 (k:Nat)] h0 fun r D=>Gr h0 D/\ ∃o,r=.slice (some ⟨o,0,none⟩) f f/\Row D o (dy f (fK B g k)) 1/\h0.n<=o:=by
 have S:=Si N
 have Q: ¬((k:Int)<0):=by omega
 have R: ¬((l:Int)<=(k:Int)):=by omega
 refine ab (n:=32) (rs:=[.tmp 4]) rfl Tryz.e60 rfl rfl rfl (lbt rfl) ?_
 simp only [BS,LB,Nat.reduceLT,Nat.reduceEqDiff,Q]
 refine an (mP S.ok m.bits) ?_
 intro T U;replace S:=S.call U
 simp only [BS,LB,Nat.reduceLT,Nat.reduceEqDiff,R]
 refine an (ku S.ok (m.gr S.gr).bits) ?_
 intro h2 V;replace S:=S.call V
 simp only [BS,LB,Nat.reduceLT,Nat.reduceEqDiff]
 refine ae (jR (by exact Tryz.t63.1) (by exact Tryz.e4E) (by omega) (by omega)) S ?_;clear S;intro h o S y
 have W:aT [Value.bool false] f=dy f (fun a=>decide (a∈((zO f).filter (fK B g k)).take 0)):=by
  rw [mI]
  unfold dy
  simp [XT]
 rw [Xe,W]at S
 simp only [BS,LB,Nat.reduceLT,Nat.reduceEqDiff,Xe]
 refine step_ret (bRow_ok S.ok (m.gr S.gr) P p q s) ?_
 rintro v X ⟨Y,E,Z⟩
 have k3:=(S.row (b:=o) m0).lt S.ok
 replace S:=S.call Y
 generalize F:(zO f).filter (fK B g k)=L at E S
 have G: ∀a∈L,a<f:=fun a J=>by rw [<-F]at J;exact List.mem_range.1 (List.mem_filter.1 J).1
 have ad:L.length<=f:=by rw [<-F];exact pF
 have af:=S.ok
 have nA:=S.gr
 simp only [BS,LB,Nat.reduceLT,Nat.reduceEqDiff,F0N,E.lenq]
 refine aN (fun(i:Nat) z h=>i<=L.length/\St NoM h0 h [(o,.row (dy f (fun a=>decide (a∈L.take i))) 1)] []/\(∀c,ar v c->h.get c=X.get c)/\z 5=.slice (some ⟨o,0,none⟩) f f/\z 21=v/\z 22=.int .i64 (L.length:Nat)/\z 23=.int .i64 i) (fun i=>L.length-i) ?_ 0 _ _ ?_
 . clear S
   intro i ih z h ⟨hi,S,hv,r5,r21,r22,r23⟩
   have w:ao .i64 ((i:Int)+1)=((i+1:Nat):Int):=by rw [wrap64]<;>omega
   by_cases hlt:i<L.length
   . have K:=sl_get E hv
     obtain⟨d,oo,x0,A⟩:=K.ix (kd:=.i64) du hlt
     have t:=G _ (Xh hlt)
     have H:dy f (fun u=>decide (u∈L.take (i+1)))=(dy f (fun u=>decide (u∈L.take i))).set L[i] (.bool true):=by
      rw [xV]
      refine j8 fun j _=>?_
      rw [Xd hlt]
      simp only [Xw,XI]
      by_cases e1:j=L[i]<;>by_cases e2:j∈L.take i<;>simp [e1,e2]
     rw [show(L.take (i+1))=L.take (i+1)from rfl]at H
     generalize L[i]=x at t A H
     replace A:h.load d oo 1=some [.int .i64 (x:Nat)]:=A
     simp only [BS,LB,Nat.reduceLT,Nat.reduceEqDiff,F0N,r5,r21,r22,r23,aB,hlt,x0,A]
     have M:=S
     replace S:=S.base
     simp only [BS,LB,Nat.reduceLT,Nat.reduceEqDiff,t]
     refine az (ay S (i:=0) rfl Tryz.t4.2.2.1 mq (by rw [pZ];exact t) ono) ?_
     clear S;rintro D ⟨S,mo⟩
     simp only [LC]at S
     simp only [BS,LB,Nat.reduceLT,Nat.reduceEqDiff,r23,w]
     refine ih (i+1) _ _ (by omega) ⟨by omega,?_,?_,by simp [aa,r5],by simp [aa,r21],by simp [aa,r22],by simp [aa]⟩
     . rw [H];exact M.rebase S
     . intro c C
       have T:=Z c C
       exact(mo.get c (K.blt M.ok C) (fun e=>by have e:c=o:=e;omega)).trans (hv c C)
   . have:i=L.length:=by omega
     subst this
     simp only [BS,LB,ac,Nat.reduceLT,Nat.reduceEqDiff,r5,r22,r23,aB,hlt]
     refine⟨S.gr,o,rfl,?_,y⟩
     have e:dy f (fK B g k)=dy f (fun a=>decide (a∈L.take L.length)):=j8 fun j hj=>by
      rw [Xo,<-F]
      simp [XD,hj]
     rw [e]
     exact S.row m0
 . exact⟨Xf _,S,fun c C=>rfl,by simp [aa],by simp [aa],by simp [aa],by simp [aa]⟩
theorem AH{d:Gra}{c:Nat->Nat}{k a:Nat}(e:a<d.arcs.length):a∈cZ d c k↔insB d c k a=true\/ ∃b∈(zO d.nodes).filter (borB d c k),iL d b a=true:=by
 unfold cZ nu
 rw [Xw,XD,List.mem_flatMap]
 simp only [XD,List.mem_range,e,true_and]

end Go.Ab
end
section
namespace Go.Ab
inductive kE(A:List Arc)(s:Nat):List Nat->Nat->Nat->Prop where
 |nil:kE A s [] s 0
 |snoc {l:List Nat} {w a:Nat}:kE A s l (A.getD a default).s w->a<A.length->kE A s (l++[a]) (A.getD a default).t (w+(A.getD a default).w)
def kh(A:List Arc)(s:Nat)(l:List Nat)(i:Nat):Nat:=if i=0 then s else(A.getD (l.getD (i-1) 0) default).t
def sumA(A:List Arc)(l:List Nat)(k:Nat):Nat:=((l.take k).map fun a=>(A.getD a default).w).sum
theorem sc{l:List Nat}{a i:Nat}(h:i<l.length):(l++[a]).getD i 0=l.getD i 0:=by
 rw [Xa,Xa,Xm h]
theorem sb{l:List Nat}{a:Nat}:(l++[a]).getD l.length 0=a:=by simp [Xa]
theorem xx{A:List Arc}{s a i:Nat}{l:List Nat}(h:i<=l.length):kh A s (l++[a]) i=kh A s l i:=by
 unfold kh
 split
 . rfl
 . rw [sc (by omega)]
theorem kE.at{A:List Arc}{s t w:Nat}{l:List Nat}(h:kE A s l t w):(∀i,i<l.length->l.getD i 0<A.length/\(A.getD (l.getD i 0) default).s=kh A s l i)/\kh A s l l.length=t/\sumA A l l.length=w:=by
 induction h with
 |nil=>exact⟨fun i c=>absurd c (Nat.not_lt_zero _),rfl,rfl⟩
 | @snoc l w a _ d e=>
   obtain⟨f,g,b⟩:=e
   have j:(l++[a]).length=l.length+1:=by simp
   refine⟨fun i c=>?_,?_,?_⟩
   . rcases Nat.lt_or_ge i l.length with h|h
     . rw [sc h,xx (Nat.le_of_lt h)];exact f i h
     . have:i=l.length:=by omega
       subst this
       rw [sb,xx (Xk _)]
       exact⟨d,g.symm⟩
   . rw [j]
     unfold kh
     rw [if_neg (by omega),Nat.add_sub_cancel,sb]
   . unfold sumA at b⊢
     rw [Xo]at b⊢
     rw [XU,List.sum_append,b]
     rfl
theorem sumA_succ{A:List Arc}{l:List Nat}{k:Nat}(h:k<l.length):sumA A l (k+1)=sumA A l k+(A.getD (l.getD k 0) default).w:=by
 have e:l.getD k 0=l[k]:=by rw [Xa,Xb h];rfl
 unfold sumA
 rw [e,Xd h,XU,List.sum_append]
 simp
section
variable{A:List Arc}{N s:Nat}{al:Nat->Bool}{pi:Nat->Int}{σ:SS}
theorem Sv.pathA(h:Sv A N s al pi σ): ∀(n:Nat) {v:Nat},(σ.P v).length<=n->(v∈σ.O\/σ.K v≠none)->kE A s (σ.P v).reverse v (σ.L v):=by
 intro n
 induction n with
 | zero=>
   intro v b c
   rcases h.path v c with⟨rfl,d,e⟩|⟨a,_,_,_,_,f,_⟩
   . rw [d,e];exact .nil
   . rw [f]at b;simp at b
 | succ n g=>
   intro v b c
   rcases h.path v c with⟨rfl,d,e⟩|⟨a,i,_,j,k,f,l⟩
   . rw [d,e];exact .nil
   . rw [f]at b⊢
     rw [l,List.reverse_cons,<-j]
     exact .snoc (g (by rw [List.length_cons]at b;omega) (.inl k)) i
theorem ends_path{to:Nat}{r:Fd}(c: ∀a∈A,a.t<N/\a.w<=cG)(d:Ends A al pi to σ r):Sv A N s al pi σ->r.dist<FAR->kE A s r.arcs to r.dist:=by
 induction d with
 |none g=>intro _ h;exact absurd h (Nat.lt_irrefl _)
 | @hit σ k b=>intro h _;exact h.pathA _ (Xk _) (.inr (by rw [b.1];nofun))
 | @step σ v k r b e _ f=>intro h;exact f (h.next c b.1).1
end
end Go.Ab

end
section
namespace Go.Ab
open Go.Proofs
set_option maxRecDepth 10000
theorem ends_len{A:List Arc}{N s to:Nat}{al:Nat->Bool}{pi:Nat->Int}{σ:SS}{r:Fd}(f: ∀a∈A,a.t<N/\a.w<=cG)(l:N<=12)(m:A.length<=100)(g:Ends A al pi to σ r):Sv A N s al pi σ->σ.ev.length<=σ.O.length*200->r.arcs.length<=12/\r.ev.length<=3000:=by
 induction g with
 | @none σ n=>
   intro h b
   have:=h.len
   exact⟨Xf _,by show σ.ev.length<=3000;omega⟩
 | @hit σ k c=>
   intro h b
   have d:=h.len
   have e:=(h.bd to).2
   refine⟨by show(σ.P to).reverse.length<=12;rw [List.length_reverse];omega,?_⟩
   show(σ.ev++[_]).length<=3000
   simp;omega
 | @step σ v k r c i _ j=>
   intro h b
   obtain⟨d,e⟩:=h.next f c.1
   refine j d ?_
   have o:=xg A al pi v (cU σ v)
   have p:(cU σ v).ev.length=σ.ev.length+1:=by show(σ.ev++[_]).length=_;simp
   rw [e.O]
   show _<=(σ.O++[v]).length*200
   simp;omega
theorem found_len{d:Gra}(b:Good d){s to:Nat}(g:s<d.nodes){al:Nat->Bool}{pi:Nat->Int}{c:Fd}(e:(s=to/\c=⟨0,[],[]⟩)\/(s≠to/\Ends d.arcs al pi to (dM pi s) c)):c.arcs.length<=12/\c.ev.length<=3000:=by
 rcases e with⟨_,rfl⟩|⟨_,e⟩
 . exact⟨Xf _,Xf _⟩
 . refine ends_len (fun a f=>⟨(b.arcs a f).2.1,(b.arcs a f).2.2⟩) b.n2 b.many e (pL g) ?_
   have h:(dM pi s).ev.length=0:=by unfold dM;rw [sF];rfl
   omega
end Go.Ab
end
section
namespace Go.Ab
open Go.Proofs
theorem isD_back{A:List Arc}{b v x:Nat}(h:IsD (seen A Arc.t Arc.s) b v x):IsD A v b x:=by
 have j: ∀a∈A,∃e∈seen A Arc.t Arc.s,e.s=a.t/\e.t=a.s/\e.w=a.w:=fun a d=>⟨⟨a.t,a.s,a.w⟩,List.mem_map_of_mem d,rfl,rfl,rfl⟩
 have k: ∀a∈seen A Arc.t Arc.s,∃e∈A,e.s=a.t/\e.t=a.s/\e.w=a.w:=fun a d=>by
  obtain⟨e,l,rfl⟩:=List.mem_map.1 d
  exact⟨e,l,rfl,rfl,rfl⟩
 have c: ∀w,Wk A v b w↔Wk (seen A Arc.t Arc.s) b v w:=fun w=>⟨fun h=>by simpa using Wk.back j h .nil,fun h=>by simpa using Wk.back k h .nil⟩
 rcases h with⟨f,g,m⟩|⟨f,g⟩
 . exact .inl ⟨f,(c x).2 g,fun w i=>m w ((c w).1 i)⟩
 . exact .inr ⟨f,fun w i=>g w ((c w).1 i)⟩
section
variable{A:List Arc}{N s:Nat}{al:Nat->Bool}{pi:Nat->Int}{σ:SS}
theorem Sv.als(h:Sv A N s al pi σ): ∀(n:Nat) {v:Nat},(σ.P v).length<=n->(v∈σ.O\/σ.K v≠none)-> ∀a∈σ.P v,a<A.length/\al a=true:=by
 intro n
 induction n with
 | zero=>
   intro v d e a c
   rw [List.eq_nil_of_length_eq_zero (Nat.le_zero.1 d)]at c;cases c
 | succ n f=>
   intro v d e a c
   rcases h.path v e with⟨rfl,g,_⟩|⟨b,i,j,_,k,l,_⟩
   . rw [g]at c;cases c
   . rw [l]at d c
     rcases List.mem_cons.1 c with rfl|c
     . exact⟨i,j⟩
     . exact f (by rw [List.length_cons]at d;omega) (.inl k) a c
end
section
variable{γ:Gra}{s to:Nat}
end
end Go.Ab

end
section
namespace Go.Ab
def onF(A:List Arc)(d:Nat->Nat->Nat)(c:Nat->Nat)(k:Nat)(a:Arc):Prop:=
 (c a.s=k/\c a.t=k)\/ ∃b,(c b=k/\ ∃e∈A,e.t=b/\c e.s≠k)/\d a.s b<FAR/\d a.t b<FAR/\d a.s b=a.w+d a.t b
inductive WkC(A:List Arc)(t:Nat):Nat->Nat->Prop where
 |nil:WkC A t t 0
 |cons {y:Nat} {a:Arc}:a∈A->WkC A t a.t y->WkC A t a.s (a.w+y)
section
variable{A On:List Arc}{N:Nat}{d:Nat->Nat->Nat}{c:Nat->Nat}{k:Nat}
theorem Wk.toC{s v x t y:Nat}(h:Wk A s v x):WkC A t v y->WkC A t s (x+y):=by
 induction h generalizing y with
 |nil=>intro h;rw [Xj];exact h
 | @snoc w a b _ e=>
   intro h
   have:=e (.cons b h)
   rw [X3];exact this
theorem WkC.toW{t v y:Nat}(h:WkC A t v y):Wk A v t y:=by
 induction h with
 |nil=>exact .nil
 | @cons y a b _ e=>
   have f:Wk A a.s a.t (0+a.w):=.snoc b .nil
   have:=f.trans e
   rwa [Xj]at this
theorem IsD.le_wk{s v x y:Nat}(h:IsD A s v x)(k:Wk A s v y):x<=y/\x<FAR:=⟨(h.wk k).2.1,(h.wk k).1⟩
variable(hA: ∀a∈A,a.s<N/\a.t<N)(hd: ∀v b,v<N->b<N->IsD A v b (d v b))(hOn: ∀a,a∈On↔a∈A/\onF A d c k a)
include hA hd hOn
theorem on_tight{s b:Nat}(m:s<N)(f:b<N)(g:c b=k/\ ∃e∈A,e.t=b/\c e.s≠k)(hf:d s b<FAR){v x:Nat}(h:Wk A s v x):v<N->x+d v b=d s b->Wk On s v x:=by
 induction h with
 |nil=>intro _ _;exact .nil
 | @snoc x a i n o=>
   intro _ t
   obtain⟨j,p⟩:=hA a i
   have q:Wk A a.s a.t (0+a.w):=.snoc i .nil
   have r:=(hd a.t b p f).far (by omega)
   have l:=(hd a.s b j f).le_wk (q.trans r)
   have u:=(hd s b m f).le_wk (n.trans ((hd a.s b j f).far l.2))
   refine .snoc ((hOn a).2 ⟨i,.inr ⟨b,g,l.2,by omega,by omega⟩⟩) (o j (by omega))
theorem on_cut{t:Nat}(l:t<N)(F:c t=k){v y:Nat}(h:WkC A t v y):v<N->y=d v t->(c v=k/\Wk On v t y)\/ ∃b z n,b<N/\(c b=k/\ ∃e∈A,e.t=b/\c e.s≠k)/\Wk A v b z/\z=d v b/\Wk On b t n/\z+n=y:=by
 have m: ∀{u w x},Wk On u w x->Wk A u w x:=fun h=>h.mono (fun a g=>((hOn a).1 g).1)
 induction h with
 |nil=>intro _ _;exact .inl ⟨F,.nil⟩
 | @cons y a g s G=>
   intro _ K
   obtain⟨f,i⟩:=hA a g
   have j:Wk A a.s a.t (0+a.w):=.snoc g .nil
   rw [Xj]at j
   have H:=(hd a.t t i l).le_wk s.toW
   have L:=(hd a.s t f l).le_wk (j.trans ((hd a.t t i l).far H.2))
   rcases G i (by omega)with⟨B,C⟩|⟨b,z,n,o,p,D,M,E,O⟩
   . by_cases q:c a.s=k
     . have I:Wk On a.s a.t (0+a.w):=.snoc ((hOn a).2 ⟨g,.inl ⟨q,B⟩⟩) .nil
       have:=I.trans C
       rw [Xj]at this
       exact .inl ⟨q,this⟩
     . have r:=(hd a.s a.t f i).le_wk j
       have J:=(hd a.s t f l).le_wk (((hd a.s a.t f i).far r.2).trans s.toW)
       exact .inr ⟨a.t,a.w,y,i,⟨B,a,g,rfl,q⟩,j,by omega,C,rfl⟩
   . have r:=(hd a.s b f o).le_wk (j.trans D)
     have J:=(hd a.s t f l).le_wk (((hd a.s b f o).far r.2).trans (m E))
     exact .inr ⟨b,a.w+z,n,o,p,j.trans D,by omega,E,by omega⟩
theorem Ap{s t x:Nat}(i:s<N)(p:t<N)(v:c t=k)(y:IsD A s t x):IsD On s t x:=by
 have f: ∀{u w x},Wk On u w x->Wk A u w x:=fun h=>h.mono (fun a B=>((hOn a).1 B).1)
 rcases y with⟨j,l,q⟩|⟨j,l⟩
 . refine .inl ⟨j,?_,fun w m=>q w (f m)⟩
   have e:x=d s t:=IsD.uniq (.inl ⟨j,l,q⟩) (hd s t i p)
   have C:=l.toC (t:=t) .nil
   rcases on_cut hA hd hOn p v C i (by omega)with⟨_,h⟩|⟨b,z,D,g,n,r,F,E,G⟩
   . exact h
   . have hf:=((hd s b i g).le_wk r).2
     have H:=(hd b b g g).self
     have o:=on_tight hA hd hOn i g n hf r g (by omega)
     have:=o.trans E
     rw [show x=z+D by omega]
     exact this
 . exact .inr ⟨j,fun w m=>l w (f m)⟩
end
end Go.Ab

end
section
namespace Go.Ab
open Go.Proofs
section
variable{γ:Gra}{s to:Nat}
end
end Go.Ab

end

/- Nets, cells, flags: what the functions do (part 4). -/
import Derived.Test.YtdjlnmjcdmnllaaGreatDoorNetC
open List renaming range->xc,getD_eq_getElem?_getD->xe,getElem?_eq_getElem->xf,getElem_mem->xi,getElem?_map->xk,take_succ_eq_append_getElem->xm,take->xo,drop->xp,flatMap_eq_foldl->xt,getElem?_append_left->xu,length_map->xx,take_length->xy,length_range->xz,replicate->xB,not_mem_nil->xC,mem_cons_of_mem->xE,getElem?_append_right->xF,set_cons_zero->xH,mem_cons->xK,mem_append->xN,map_eq_flatMap->xO,drop_zero->xP,filterMap_nil->xQ,set_cons_succ->xR,length_append->xS,map_cons->xU,drop_eq_getElem_cons->xW,map_append->yc,append_nil->yd,mem_filter->yf,take_of_length_le->yg,perm_append_comm->yh,all_cons->yj,filterMap_cons->yk,mem_map_of_mem->yl,getElem_of_mem->ym,flatMap_append->yn,map_nil->yo,all_nil->yp
open Go.Ab.Tryz renaming abEnv->xd,u38->xX,e3E->xY,s246->ye,s49->yi
open Nat renaming lt_of_lt_of_le->xg,le_trans->xh,lt_of_succ_le->xj,le_refl->xn,zero_le->xw,zero_add->xA,zero_mul->xG,mul_one->xI,one_mul->xJ,mul_le_mul_right->xL,zero_ne_one->xM,add_sub_cancel_left->yb
open Bool renaming and_true->xq
open Function renaming comp_def->xV
open Option renaming getD_some->xZ,getD_none->ya
set_option maxHeartbeats 4000000
set_option linter.defProp false
set_option linter.unusedVariables false
set_option linter.unusedSimpArgs false
section
namespace Go.Ab
open Go.Proofs
set_option maxRecDepth 10000
open Tryz in
def Tryz.FFfl263:=aj a1<|aj s1<|aj z1<|aj n1<|aj u2<|aj a2<|aj s2<|aj z2<|aj i2<|aj u3<|aj a3<|aj s3<|aj z3<|aj i3<|aj u4<|aj a4<|aj s4<|aj z4<|aj n4<|aj u5<|aj a5<|aj s5<|aj z5<|aj i5<|aj u22<|aj a22<|aj s22<|aj z22<|aj q22<|aj n22<|aj u34<|aj a34<|aj s34<|aj z34<|aj q34<|aj i34<|aj n34<|aj a115<|aj s115<|aj z115<|aj i115<|aj n115<|aj p115<|aj ff115<|aj d115<|aj u121<|aj a121<|aj s121<|aj z121<|aj q121<|aj i121<|aj n121<|aj a122<|aj s122<|aj z122<|n122
open Tryz in
def Tryz.FFfl2128:=aj a1<|aj s1<|aj z1<|aj n1<|aj u2<|aj a2<|aj s2<|aj z2<|aj i2<|aj u3<|aj a3<|aj s3<|aj z3<|aj i3<|aj u4<|aj a4<|aj s4<|aj z4<|aj n4<|aj u22<|aj a22<|aj s22<|aj z22<|aj q22<|aj n22<|aj u34<|aj a34<|aj s34<|aj z34<|aj q34<|aj i34<|aj n34<|aj a115<|aj s115<|aj z115<|aj i115<|aj n115<|aj p115<|aj ff115<|aj d115<|aj a124<|aj s124<|aj z124<|n124
open Tryz in
def Tryz.FFfl222:=aj a1<|aj s1<|aj z1<|aj n1<|aj u2<|aj a2<|aj s2<|aj z2<|aj i2<|aj u3<|aj a3<|aj s3<|aj z3<|aj i3<|aj u4<|aj a4<|aj s4<|aj z4<|aj n4<|aj u9<|aj a9<|aj s9<|aj z9<|aj n9<|aj u22<|aj a22<|aj s22<|aj z22<|aj q22<|aj n22<|aj u34<|aj a34<|aj s34<|aj z34<|aj q34<|aj i34<|aj n34<|aj u38<|aj a38<|aj s38<|aj z38<|aj q38<|aj n38<|aj a110<|aj s110<|aj z110<|aj n110<|aj a115<|aj s115<|aj z115<|aj i115<|aj n115<|aj p115<|aj ff115<|d115
section
variable{h0:Hp}{bp bb rows wide long:Nat}{B:Nat->Nat}
theorem qG{r i:Nat}(hr:r<rows)(hi:i<wide)(hrows:rows<=100)(hwide:wide<=1000)(hlong:long=(wide+7)/8):
 ao .i64 ((r:Int)*(long:Int))=((r*long:Nat):Int)/\ao .i64 ((i:Int).tdiv 8)=((i/8:Nat):Int)/\ao .i64 (((r*long:Nat):Int)+((i/8:Nat):Int))=((r*long+i/8:Nat):Int)/\(i:Int).tmod 8=((i%8:Nat):Int)/\r*long+i/8<rows*long/\i/8<long/\i%8<8:=by
 have hL:long<=126:=by omega
 have h1:r*long<=100*126:=Nat.mul_le_mul (by omega) hL
 have hi8:i/8<long:=by omega
 have h2:r*long+long<=rows*long:=by
  rw [<-Nat.succ_mul];exact xL _ hr
 refine⟨by rw [<-Int.natCast_mul,wrap64]<;>omega,?_,by rw [wrap64]<;>omega,rfl,by omega,hi8,by omega⟩
 rw [show(i:Int).tdiv 8=((i/8:Nat):Int)from rfl,wrap64]<;>omega
theorem bGet_ok(ok:h0.t.Sized h0.n)(m:ia h0 bp bb rows wide long B){r i:Nat}(hr:r<rows)(hi:i<wide)(hrows:rows<=100)(hwide:wide<=1000)(hlong:long=(wide+7)/8):
 bA xd 24 [ptrTo bp,.int .i64 (r:Nat),.int .i64 (i:Nat)] h0 (.bool (fJ B long r i)):=by
 obtain⟨n1,n2,n3,n4,n5,n6,n7⟩:=qG hr hi hrows hwide hlong
 have pl: ∀{h:Hp},Gr h0 h->bA xd 63 [ptrTo bp,.int .i64 (r:Nat),.int .i64 (i:Nat),.func (.func 64) #[] #[]] h (.bool (fJ B long r i)):=by
  intro h g
  have S:=Si g.ok
  have mh:=m.gr g
  have c1: ¬(r:Int)<0:=by omega
  have c2: ¬(rows:Int)<=(r:Int):=by omega
  have c3: ¬(i:Int)<0:=by omega
  have c4: ¬(wide:Int)<=(i:Int):=by omega
  have l2:=mh.r.load1 (o:=2) rfl
  have l3:=mh.r.load1 (o:=3) rfl
  have lx:=mh.b.load1 (rH n5)
  have zp:=mh.r.lt g.ok
  refine ac (n:=46) (rs:=[.tmp 8]) rfl Tryz.e63 rfl rfl rfl (lbt rfl) ?_
  simp only [BS,LB,Nat.reduceLT,Nat.reduceEqDiff,c1]
  refine aq (pF S.ok mh.bits) ?_;intro h1 g1;replace S:=S.call g1
  simp only [BS,LB,Nat.reduceLT,Nat.reduceEqDiff,c2,c3]
  refine aq (mG S.ok (mh.gr g1).bits) ?_;intro h2 g2;replace S:=S.call g2
  have g12:=g1.trans g2
  have k2:=g12.load l2
  have k3:=g12.load l3
  simp only [BS,LB,Nat.reduceLT,Nat.reduceEqDiff,c4]
  refine aA (aI rfl) (q:=0) (ps:=[]) (by kernel_rfl) ?_
  simp only [BS,LB,cls,Nat.reduceLT,Nat.reduceEqDiff,Nat.reduceAdd,Nat.reducePow,Nat.reduceDiv,Nat.reduceMod,Nat.reduceLeDiff,Tryz.FFfl263,k2,k3,n1,n2,n3,n4,n5,kh (n:=8) (by decide),m9 (n:=8) (by decide),b_shl8 n7]
  refine dL (get1_ok S.ok (g12.load lx) (mh.lt _) n7) ?_
  intro h3 g3
  have v:=aF g3 (xg zp g12.n)
  replace S:=S.call g3
  simp only [BS,LB,cls,ae,Nat.reduceLT,Nat.reduceEqDiff,Nat.reduceAdd,Nat.reducePow,Nat.reduceDiv,Nat.reduceMod,Nat.reduceLeDiff]
  exact⟨rfl,S.gr⟩
 have S:=Si ok
 refine ac (n:=11) (rs:=[.tmp 6]) rfl Tryz.e24 rfl rfl rfl (lbt rfl) ?_
 simp only [BS,LB,Nat.reduceLT,Nat.reduceEqDiff]
 refine aq (pl (Gr.refl ok)) ?_
 intro h g
 simp only [BS,LB,ae,Nat.reduceLT,Nat.reduceEqDiff]
 exact g
theorem bSet_ok(ok:h0.t.Sized h0.n)(m:ia h0 bp bb rows wide long B)(hne:bp≠bb){r i:Nat}(hr:r<rows)(hi:i<wide)(hrows:rows<=100)(hwide:wide<=1000)(hlong:long=(wide+7)/8):
 Ret xd 58 [ptrTo bp,.int .i64 (r:Nat),.int .i64 (i:Nat),.bool true] h0 fun v h'=>Mo (· =bb) h0 h'/\v=.bool true/\ia h' bp bb rows wide long (ck B (r*long+i/8) (setB (B (r*long+i/8)) (i%8))):=by
 obtain⟨n1,n2,n3,n4,n5,n6,n7⟩:=qG hr hi hrows hwide hlong
 have pl: ∀{h:Hp} {b7:Nat},Gr h0 h->h.load b7 0 1=some [.bool true]->b7≠bb->Ret xd 63 [ptrTo bp,.int .i64 (r:Nat),.int .i64 (i:Nat),.func (.func 124) #[] #[ptrTo b7]] h fun v h'=>Mo (· =bb) h h'/\v=.bool true/\Row h' bb (gD (rows*long) (ck B (r*long+i/8) (setB (B (r*long+i/8)) (i%8)))) 1:=by
  intro h b7 g l7 h7
  have S:=Si g.ok
  have mh:=m.gr g
  have c1: ¬(r:Int)<0:=by omega
  have c2: ¬(rows:Int)<=(r:Int):=by omega
  have c3: ¬(i:Int)<0:=by omega
  have c4: ¬(wide:Int)<=(i:Int):=by omega
  have l2:=mh.r.load1 (o:=2) rfl
  have l3:=mh.r.load1 (o:=3) rfl
  have zp:=mh.r.lt g.ok
  refine ac (n:=46) (rs:=[.tmp 8]) rfl Tryz.e63 rfl rfl rfl (lbt rfl) ?_
  simp only [BS,LB,Nat.reduceLT,Nat.reduceEqDiff,c1]
  refine aq (pF S.ok mh.bits) ?_;intro h1 g1;replace S:=S.call g1
  simp only [BS,LB,Nat.reduceLT,Nat.reduceEqDiff,c2,c3]
  refine aq (mG S.ok (mh.gr g1).bits) ?_;intro h2 g2;replace S:=S.call g2
  have g12:=g1.trans g2
  have k2:=g12.load l2
  have k3:=g12.load l3
  simp only [BS,LB,Nat.reduceLT,Nat.reduceEqDiff,c4]
  refine aA (aI rfl) (q:=0) (ps:=[]) (by kernel_rfl) ?_
  simp only [BS,LB,cls,Nat.reduceLT,Nat.reduceEqDiff,Nat.reduceAdd,Nat.reducePow,Nat.reduceDiv,Nat.reduceMod,Nat.reduceLeDiff,Tryz.FFfl263,k2,k3,n1,n2,n3,n4,n5,kh (n:=8) (by decide),m9 (n:=8) (by decide),b_shl8 n7]
  refine dc (set1_ok S.ok (mh.b.gr g12) n5 (mh.lt _) n7 (g12.load l7) h7) ?_
  rintro v h3 ⟨f3,rfl,R3⟩
  have vv:leaves h2 h3 bp=true:=mE (f3.get bp (xg zp g12.n) hne)
  simp only [BS,LB,cls,ae,Nat.reduceLT,Nat.reduceEqDiff,Nat.reduceAdd,Nat.reducePow,Nat.reduceDiv,Nat.reduceMod,Nat.reduceLeDiff]
  exact⟨(g12.fr (M:=(· =bb))).trans f3 (fun c hc=>.inl hc),R3⟩
 have S:=Si ok
 have zb:=m.b.lt ok
 refine ac (n:=14) (rs:=[.tmp 8]) rfl Tryz.e58 rfl rfl rfl (lbt rfl) ?_
 simp only [BS,Nat.reduceLT]
 refine ag (cG (by exact mL)) S ?_;clear S;intro h b7 S n_b7
 simp only [BS,LB,Nat.reduceLT,Nat.reduceEqDiff]
 have k7:=S.fr.n
 refine step_ret (pl S.gr (S.ld m0 rfl) (by omega)) ?_
 rintro v h ⟨f,rfl,R⟩
 simp only [BS,LB,ae,Nat.reduceLT,Nat.reduceEqDiff]
 have f':Mo (· =bb) h0 h:=(S.gr.fr (M:=(· =bb))).trans f (fun c hc=>.inl hc)
 refine⟨f',f'.has (o:=.row _ 1) m.r hne,R,fun j=>?_⟩
 unfold ck
 split
 . exact setB_lt (m.lt _) n7
 . exact m.lt _
end
theorem gC{n:Nat}{f:Nat->Bool}:(xc (n+1)).filter f=(xc n).filter f++if f n=true then [n]else []:=by
 rw [List.range_succ,List.filter_append]
 congr 1
 by_cases h:f n=true
 . simp [h]
 . simp [h]
theorem oH{f:Nat->Bool}{i:Nat}(h:f i=true): ∀n,i<n->((xc n).filter f)[((xc i).filter f).length]? =some i:=by
 intro n
 induction n with
 |zero=>intro hi;omega
 | succ n ih=>
   intro hi
   rw [gC]
   by_cases hn:i<n
   . have:=ih hn
     rw [xu (List.getElem?_eq_some_iff.1 this).1];exact this
   . have:i=n:=by omega
     subst this
     rw [xF (xn _),if_pos h]
     simp
theorem px{n:Nat}{f:Nat->Bool}:((xc n).filter f).length<=n:=by
 have:=List.length_filter_le f (xc n)
 rwa [xz]at this
theorem bOn_ok{h0:Hp}(ok:h0.t.Sized h0.n){bp r:Nat}:Ret xd 62 [ptrTo bp,.int .i64 (r:Nat)] h0 fun v h'=>Gr h0 h'/\ ∃b2 b3,v=.func (.func 128) #[] #[ptrTo b2,ptrTo b3]/\h0.n<=b2/\h0.n<=b3/\h'.load b2 0 1=some [ptrTo bp]/\h'.load b3 0 1=some [.int .i64 (r:Nat)]:=by
 have S:=Si ok
 refine ac (n:=6) (rs:=[.tmp 4]) rfl Tryz.e62 rfl rfl rfl (lbt rfl) ?_
 simp only [BS,Nat.reduceLT]
 refine ag (cG (by exact dR)) S ?_;clear S;intro h b2 S n_b2
 simp only [BS,Nat.reduceLT,Nat.reduceEqDiff,if_false]
 refine ag (cG (by exact bO)) S ?_;clear S;intro h b3 S n_b3
 simp only [BS,LB,ae,Nat.reduceLT,Nat.reduceEqDiff]
 exact⟨S.gr,b2,b3,rfl,n_b2,n_b3,S.ld m1 rfl,S.ld m0 rfl⟩
section
variable{h0:Hp}{bp bb rows wide long:Nat}{B:Nat->Nat}
theorem ia.its{D:Nat->Prop}{h:Hp}{F:List Nat}(s:ItS h0 D h F)(ok0:h0.t.Sized h0.n)(m:ia h0 bp bb rows wide long B)(d1:D bp)(d2:D bb):ia h bp bb rows wide long B:=
 ⟨Row.of_get (s.data bp (m.r.lt ok0) d1) m.r,Row.of_get (s.data bb (m.b.lt ok0) d2) m.b,m.lt⟩
theorem on1_it (ok0:h0.t.Sized h0.n) (m:ia h0 bp bb rows wide long B) {r:Nat} (hr:r<rows) (hrows:rows<=100) (hwide:wide<=1000) (hlong:long=(wide+7)/8) {b2 b3:Nat} (e2:h0.load b2 0 1=some [ptrTo bp]) (e3:h0.load b3 0 1=some [.int .i64 (r:Nat)]):
 lW xd 128 [] [ptrTo b2,ptrTo b3] h0 (fun c=>c=b2\/c=b3\/c=bp\/c=bb) (((xc wide).filter (fJ B long r)).map fun(i:Nat)=>[.int .i64 (i:Nat)]):=by
 intro lb J Z hz Y h F s hj
 have l2:=s.load ok0 e2 (.inl rfl)
 refine enter (n:=21) (rs:=[]) rfl Tryz.e128 rfl rfl rfl (lbt rfl) ?_
 simp only [BS,LB,Nat.reduceLT,Tryz.FFfl2128,l2]
 refine aq (mG s.ok (m.its s ok0 (.inr (.inr (.inl rfl))) (.inr (.inr (.inr rfl)))).bits) ?_
 intro h1 g1
 have sA:=s.gr g1
 have jA:=Y.gr _ _ _ _ hj g1
 simp only [BS]
 refine aV (fun(i:Nat) ρ h=>i<=wide/\ ∃F,ItS h0 (fun c=>c=b2\/c=b3\/c=bp\/c=bb) h F/\J ((xc i).filter (fJ B long r)).length h F/\ρ 0=.func (.yield lb) #[] #[]/\ρ 1=ptrTo b2/\ρ 2=ptrTo b3/\ρ 6=.int .i64 (wide:Nat)/\ρ 7=.int .i64 i) (fun i=>wide-i) ?_ 0 _ _ ?_
 . clear l2 s hj sA jA F g1 h
   intro i ih ρ h ⟨hi,F,s,hj,r0,r1,r2,r6,r7⟩
   have w:ao .i64 ((i:Int)+1)=((i+1:Nat):Int):=by rw [wrap64]<;>omega
   by_cases hlt:i<wide
   . have l2:=s.load ok0 e2 (.inl rfl)
     have l3:=s.load ok0 e3 (.inr (.inl rfl))
     have mh:=m.its s ok0 (.inr (.inr (.inl rfl))) (.inr (.inr (.inr rfl)))
     simp only [BS,LB,Nat.reduceLT,Nat.reduceEqDiff,Tryz.FFfl2128,r1,r2,r6,r7,aG,hlt,l2,l3]
     refine aq (bGet_ok s.ok mh hr hlt hrows hwide hlong) ?_
     intro h2 g2
     cases hb:fJ B long r i with
     | true=>
       have hx:(((xc wide).filter (fJ B long r)).map fun(i:Nat)=>[Value.int .i64 (i:Nat)])[((xc i).filter (fJ B long r)).length]? =some [.int .i64 (i:Nat)]:=by
        rw [xk,oH hb _ hlt];rfl
       have ln:((xc (i+1)).filter (fJ B long r)).length=((xc i).filter (fJ B long r)).length+1:=by rw [gC,if_pos hb];simp
       simp only [BS,LB,Nat.reduceLT,Nat.reduceEqDiff,r0]
       refine dr Y (s.gr g2) (Y.gr _ _ _ _ hj g2) (i:=((xc i).filter (fJ B long r)).length) hx ?_ ?_ ?_
       . intro h3 F3 a s3 _ _
         simp only [BS,LB,Nat.reduceLT,Nat.reduceEqDiff,r7,w]
         exact ih (i+1) _ _ (by omega) ⟨by omega,F3,s3,by rw [ln];exact a,by simp [aa,r0],by simp [aa,r1,ab],by simp [aa,r2,ab],by simp [aa,r6],by simp [aa]⟩
       . intro h3 a _
         simp only [BS,LB,Nat.reduceLT,Nat.reduceEqDiff]
         exact eQ rfl ⟨rfl,.inr (.inl ⟨_,rfl,a⟩)⟩
       . intro v h3 a
         exact absurd a (hz v h3)
     | false=>
       have ln:(xc (i+1)).filter (fJ B long r)=(xc i).filter (fJ B long r):=by rw [gC,if_neg (by rw [hb];decide)];simp
       simp only [BS,LB,Nat.reduceLT,Nat.reduceEqDiff,r7,w]
       exact ih (i+1) _ _ (by omega) ⟨by omega,F,s.gr g2,by rw [ln];exact Y.gr _ _ _ _ hj g2,by simp [aa,r0],by simp [aa,r1,ab],by simp [aa,r2,ab],by simp [aa,r6],by simp [aa]⟩
   . simp only [BS,LB,Nat.reduceLT,r6,r7,aG,hlt]
     have:i=wide:=by omega
     subst this
     exact cQ (c5 ⟨rfl,_,rfl,rfl,.inl ⟨_,F,rfl,by simpa using hj⟩⟩)
 . exact⟨xw _,F,sA,jA,by simp [aa,cm],by simp [aa,cm,ab],by simp [aa,cm,ab],by simp [aa],by simp [aa]⟩
theorem bRow_ok(ok:h0.t.Sized h0.n)(m:ia h0 bp bb rows wide long B){r:Nat}(hr:r<rows)(hrows:rows<=100)(hwide:wide<=1000)(hlong:long=(wide+7)/8):
 Ret xd 22 [ptrTo bp,.int .i64 (r:Nat)] h0 fun v h'=>Gr h0 h'/\aE h' 1 cw v ((xc wide).filter (fJ B long r))/\ ∀c,au v c->h0.n<=c:=by
 have S:=Si ok
 refine ac (n:=15) (rs:=[.cell 4 38]) rfl Tryz.e22 rfl rfl rfl (lbt rfl) ?_
 simp only [BS,Tryz.FFfl222]
 refine ag ax S ?_;clear S;intro h b4 S n_b4
 simp only [BS,LB,Nat.reduceLT,Nat.reduceEqDiff]
 have k4:=(S.row (b:=b4) m0).lt S.ok
 refine step_ret (bOn_ok S.ok) ?_
 rintro v hA ⟨g,b2,b3,rfl,n2,n3,y2,y3⟩
 have mA:=m.gr (S.gr.trans g)
 replace S:=S.call g
 have it:=on1_it S.ok mA hr hrows hwide hlong y2 y3
 have zp:=mA.r.lt S.ok
 have zb:=mA.b.lt S.ok
 have wp:=m.r.lt ok
 have wb:=m.b.lt ok
 generalize hxs:(xc wide).filter (fJ B long r)=xs at it
 have hxl:xs.length<=1000:=by rw [<-hxs];exact xh px hwide
 simp only [BS]
 replace S:=S.nilG (k:=1)
 refine iC S (g:=128) (a:=#[]) (b:=#[ptrTo b2,ptrTo b3]) (by simp [cg,aa,ab]) rfl rfl ?_
 intro h2 db lb S' hdb hlb g2
 obtain⟨X,hX,S'⟩: ∃X:eF,X=_/\St NoM h0 h2 [(lb,.loop X),(db,.dfr),(b4,.row [.slice none 0 0] 1)] [(.slice none 0 0,1,[])]:=⟨_,rfl,S'⟩
 have hJ:Yld xd lb (fun k h' F=> ∃(vR:Value),St NoM h0 h' [(lb,.loop X),(db,.dfr),(b4,.row [vR] 1)] [(vR,1,natM (xs.take k))]/\k<=xs.length/\F=keys [(lb,.loop X),(db,.dfr),(b4,.row [vR] 1)] [(vR,1,natM (xs.take k))]/\(∀c∈F,hA.n<=c\/c=b4)) (fun _ _=>False) (xs.map fun(i:Nat)=>[.int .i64 (i:Nat)]):=by
  refine⟨?_,?_,fun _ _ h=>h.elim,?_⟩
  . rintro i h F ⟨vR,S,_,rfl,_⟩;exact⟨S.ok,fun b hb=>S.key_lt hb⟩
  . rintro i h F h' ⟨vR,S,a,rfl,c⟩ gg;exact⟨vR,S.call gg,a,rfl,c⟩
  . rintro i x hR F hx ⟨vR,S,a,rfl,hF⟩
    have hil:i<xs.length:=by
     have:=(List.getElem?_eq_some_iff.1 hx).1
     simpa using this
    rw [xk,xf hil]at hx
    cases hx
    have tk:natM (xs.take (i+1))=natM (xs.take i)++[.int .i64 (xs[i]:Nat)]:=by
     rw [xm hil]
     unfold natM
     rw [yc];rfl
    have tl:(natM (xs.take i)).length<=i:=by rw [th,List.length_take];omega
    generalize xs[i]=x at tk
    have fvR:Fl vR:=(S.gown _ m0).1.fl
    subst hX
    refine iB (S.get m0) (by rw [Tryz.e22];rfl) rfl ?_
    have S0:=S
    have kR:=S.fr.n
    have lim:hA.n<=hR.n:=by
     have h1:=hF lb (by simp [keys])
     have h2:=S.key_lt (b:=lb) (by simp [keys])
     omega
    replace S:=S.base
    simp only [BS,LB,Nat.reduceLT,Nat.reduceEqDiff]
    refine gJ S (i:=0) rfl rfl rfl rfl rfl ?_
    clear S;intro h S
    simp only [LC]at S
    simp only [BS,LB,Nat.reduceLT,Nat.reduceEqDiff,Tryz.FFfl222,S.ld (b:=b4) (o:=0) m2 rfl]
    refine ag (bW (by exact xX) (by exact xY) (by decide) (by rfl)) S ?_;clear S;intro h bs S n_bs;simp only [LC,aP,bj,ah,Nat.reduceMul,Nat.reduceAdd,xG,xA,xI,xJ]at S
    simp only [BS,LB,Nat.reduceLT,Nat.reduceEqDiff]
    have src:aO h 1 (.slice (some ⟨bs,0,none⟩) 1 1)=some (1,[.int .i64 (x:Nat)]):=by simp only [aO];rw [S.lds (b:=bs) (o:=0) (n:=1*1) m0 (lbt rfl)];rfl
    replace S:=S.drop1
    refine e6 (S.grow (j:=0) (m:=1) (new:=[.int .i64 (x:Nat)]) rfl xX xY (by decide) Tryz.n38 src rfl (by decide) rfl (by rw [th];simp;omega)) ?_
    clear S src;rintro h vR' S
    simp only [LC]at S
    have fv:Fl vR':=(S.gown _ m0).1.fl
    simp only [BS,LB,Nat.reduceLT,Nat.reduceEqDiff]
    refine az (aB S (i:=2) rfl Tryz.s38 fv (xj (lbt rfl)) ono) ?_
    clear S;rintro h ⟨S,_⟩
    simp only [LC]at S
    simp only [BS]
    refine ee S (i:=0) rfl ?_
    clear S;intro h S
    simp only [LC]at S
    rw [<-tk]at S
    refine .inl ⟨rfl,_,⟨vR',S0.rebase S,by omega,rfl,fun c hc=>?_⟩,S.fr,S.key_new⟩
    rcases S.key_new c hc with h|h
    . exact hF c h
    . exact .inl (by omega)
 refine fu (it lb _ _ (fun _ _ h=>h) hJ h2 _ ?_ ⟨_,S',xw _,rfl,fun c hc=>?_⟩) fun o rc h' y=>ir y ?_
 . refine⟨S'.ok,g2.n,fun b hb _=>g2.get b hb,fun b hb h=>?_,fun b hb=>S'.key_lt hb⟩
   simp only [keys,xU,yo,yk,dw,xQ,yd,xK,xC,or_false]at hb
   rcases hb with rfl|rfl|rfl
   . omega
   . omega
   . rcases h.2 with e|e|e|e<;>omega
 . simp only [keys,xU,yo,yk,dw,xQ,yd,xK,xC,or_false]at hc
   rcases hc with rfl|rfl|rfl
   . exact .inl hlb
   . exact .inl hdb
   . exact .inr rfl
 . rintro F ⟨vR,T,b,rfl,_⟩
   rw [xx,xy]at T
   subst hX
   refine⟨_,T.get m0,xM,?_⟩
   replace T:=T.dead
   have S:=T
   show Run _ _ _ _ _ _ _ _
   simp only [BS,LB,Nat.reduceLT,Nat.reduceEqDiff,Tryz.FFfl222,S.ld (b:=b4) (o:=0) m1 rfl]
   have fv:Fl vR:=(T.gown _ m0).1.fl
   clear S
   refine az (aB T (i:=1) rfl Tryz.s38 fv (xj (lbt rfl)) ono) ?_
   clear T;rintro h3 ⟨T,_⟩
   simp only [xH,xR]at T
   simp only [BS]
   refine fF (jn [db] _ (L:=[(b4,_)]) T.base fun h4 S4=>?_)
   refine⟨rfl,(gH (by decide) (by simp only [aU,ab,Nat.reduceEqDiff,reduceIte];exact rf Tryz.a38 (S4.ld (b:=b4) (o:=0) m0 rfl))).2 (fj.2 ⟨(T.rebase S4).gr,(S4.gown _ m0).1.sl (natM_eq _).symm dU (by decide),fun c hc=>?_⟩)⟩
   rcases(T.gblk m0 hc).1 with h|h
   . exact h
   . exact h.elim
end
end Go.Ab

end
section
namespace Go.Ab
open Go.Proofs
set_option maxRecDepth 10000
open Tryz in
def Tryz.FFf3263:=aj a1<|aj s1<|aj z1<|aj n1<|aj u2<|aj a2<|aj s2<|aj z2<|aj i2<|aj u3<|aj a3<|aj s3<|aj z3<|aj i3<|aj u4<|aj a4<|aj s4<|aj z4<|aj n4<|aj u5<|aj a5<|aj s5<|aj z5<|aj i5<|aj a28<|aj s28<|aj z28<|aj i28<|aj n28<|aj p28<|aj ff28<|aj d28<|aj u29<|aj a29<|aj s29<|aj z29<|aj q29<|aj i29<|aj n29<|aj u38<|aj a38<|aj s38<|aj z38<|aj q38<|aj n38<|aj a49<|aj s49<|aj z49<|aj i49<|aj n49<|aj p49<|aj ff49<|aj d49<|aj u190<|aj a190<|aj s190<|aj z190<|aj q190<|aj n190<|aj a192<|aj s192<|aj z192<|aj i192<|aj n192<|aj p192<|aj ff192<|aj d192<|aj a219<|aj s219<|aj z219<|aj n219<|aj a350<|aj s350<|aj z350<|n350
def la(A:List Arc)(f:Arc->Nat)(ids:List Nat):List (List Value):=ids.map fun(id:Nat)=>[.int .i64 id,.agg ⟨cl ⟨0,f (A.getD id default),(A.getD id default).w⟩⟩]
theorem arcs_ok'{h0:Hp}(ok:h0.t.Sized h0.n){p vl ve:Value}(f1:Fl p)(f2:Fl vl)(f3:Fl ve):Ret xd 240 [p,vl,ve] h0 fun v h'=>Gr h0 h'/\ ∃b1 b2 b3,v=.func (.func 263) #[] #[ptrTo b1,ptrTo b2,ptrTo b3]/\h0.n<=b1/\h0.n<=b2/\h0.n<=b3/\h'.load b1 0 1=some [vl]/\h'.load b2 0 1=some [p]/\h'.load b3 0 1=some [ve]:=by
 have S:=Si ok
 refine ac (n:=8) (rs:=[.tmp 6]) rfl Tryz.e240 rfl rfl rfl (lbt rfl) ?_
 simp only [BS,Nat.reduceLT]
 refine ag (cG (by assumption)) S ?_;clear S;intro h b2 S n_b2
 simp only [BS,Nat.reduceLT,Nat.reduceEqDiff,if_false]
 refine ag (cG (by assumption)) S ?_;clear S;intro h b1 S n_b1
 simp only [BS,Nat.reduceLT,Nat.reduceEqDiff,if_false]
 refine ag (cG (by assumption)) S ?_;clear S;intro h b3 S n_b3
 simp only [BS,LB,ae,Nat.reduceLT,Nat.reduceEqDiff]
 exact⟨S.gr,b1,b2,b3,rfl,n_b1,n_b2,n_b3,S.ld m1 rfl,S.ld m2 rfl,S.ld m0 rfl⟩
theorem arcs_it{hq h0:Hp}(okq:hq.t.Sized hq.n)(ok0:h0.t.Sized h0.n)(kq:dN hq h0)(nq:hq.n<=h0.n){p vl:Value}{γ:Gra}{nb b1 b2 b3:Nat}(hn:aY hq nb p γ){ids:List Nat}(hl:aE h0 1 cw vl ids)(hids: ∀id∈ids,id<γ.arcs.length)(hlen:ids.length<1000){g:FuncId}{f:Arc->Nat}(hk:KeyF xd g f)
 (e1:h0.load b1 0 1=some [vl]) (e2:h0.load b2 0 1=some [p]) (e3:h0.load b3 0 1=some [.func (.func g) #[] #[]]):
 lW xd 263 [] [ptrTo b1,ptrTo b2,ptrTo b3] h0 (fun c=>c=b1\/c=b2\/c=b3\/au vl c\/c<hq.n) (la γ.arcs f ids):=by
 intro lb J Z hz Y h F s hj
 refine enter (n:=32) (rs:=[]) rfl Tryz.e263 rfl rfl rfl (lbt rfl) ?_
 have l1:=s.load ok0 e1 (.inl rfl)
 simp only [BS,LB,Nat.reduceLT,Tryz.FFf3263,l1,hl.lenq]
 refine aV (fun(i:Nat) ρ h=>i<=ids.length/\ ∃F,ItS h0 (fun c=>c=b1\/c=b2\/c=b3\/au vl c\/c<hq.n) h F/\J i h F/\ρ 0=.func (.yield lb) #[] #[]/\ρ 1=ptrTo b1/\ρ 2=ptrTo b2/\ρ 3=ptrTo b3/\ρ 9=vl/\ρ 10=.int .i64 ids.length/\ρ 11=.int .i64 i) (fun i=>ids.length-i) ?_ 0 _ _ ?_
 . clear l1
   intro i ih ρ h ⟨hi,F,s,hj,r0,r1,r2,r3,r9,r10,r11⟩
   by_cases hlt:i<ids.length
   . obtain⟨c,o,hidx,hld⟩:=(s.sl ok0 hl (fun b h=>.inr (.inr (.inr (.inl h))))).ix (kd:=.i64) dU hlt
     have l2:=s.load ok0 e2 (.inr (.inl rfl))
     have l3:=s.load ok0 e3 (.inr (.inr (.inl rfl)))
     have hid:=hids _ (xi hlt)
     have nt:aY h nb p γ:=hn.keep okq (s.keep kq nq (fun c hc=>.inr (.inr (.inr (.inr hc)))))
     have w:ao .i64 ((i:Int)+1)=((i+1:Nat):Int):=by rw [wrap64]<;>omega
     have S:=Si s.ok
     simp only [BS,LB,Nat.reduceLT,Nat.reduceEqDiff,Tryz.FFf3263,r2,r9,r10,r11,aG,hlt,hidx,hld,cw,l2]
     refine step_ret (jm S.ok nt hid) ?_
     rintro v h2 ⟨g1,rfl⟩
     replace S:=S.call g1;clear g1
     simp only [BS,LB,Nat.reduceLT,Nat.reduceEqDiff,Tryz.FFf3263]
     refine ag ax S ?_;clear S;intro h b7 S n_b7
     simp only [BS,LB,Nat.reduceLT,Nat.reduceEqDiff,cl]
     refine az (S.store (i:=0) rfl ?_ ?_ rfl rfl ?_ ono) ?_
     . exact(by exact yi)
     . exact(by intro x e;cases e)
     . exact lbt rfl
     clear S;rintro h ⟨S,mo⟩;clear mo;simp only [LC,ah,lay,xo,xp,Nat.reduceAdd]at S
     simp only [BS,LB,Nat.reduceLT,Nat.reduceEqDiff]
     refine aA (aI rfl) (q:=0) (ps:=[(4,6)]) (by kernel_rfl) ?_
     simp only [BS,LB,cls,Nat.reduceLT,Nat.reduceEqDiff,Nat.reduceAdd,Nat.reducePow,Nat.reduceDiv,Nat.reduceMod,Nat.reduceLeDiff,Tryz.FFf3263,r0,r3,S.old l3 (fun h=>h),S.lds (b:=b7) (o:=0) (n:=3) m0 (lbt rfl)]
     have hlt7:=(S.row (b:=b7) m0).lt S.ok
     refine dL (hk _ γ.arcs[ids[i]] S.ok) ?_
     intro h' g1
     have lv:=aF g1 hlt7
     replace S:=S.call g1;clear g1
     simp only [BS,LB,cls,Nat.reduceLT,Nat.reduceEqDiff,Nat.reduceAdd,Nat.reducePow,Nat.reduceDiv,Nat.reduceMod,Nat.reduceLeDiff,Tryz.FFf3263,S.ld (b:=b7) (o:=2) m0 rfl]
     have gd:γ.arcs.getD ids[i] default=γ.arcs[ids[i]]:=by simp [xe,hid]
     have hx:(la γ.arcs f ids)[i]? =some [.int .i64 (ids[i]:Nat),.agg ⟨[.int .i64 0,.int .i64 (f γ.arcs[ids[i]]:Nat),.int .i64 (γ.arcs[ids[i]].w:Nat)]⟩]:=by
      unfold la
      rw [xk,xf hlt]
      simp only [Option.map_some,gd]
      rfl
     refine dn_yield hz Y (s.gr S.gr) (Y.gr _ _ _ _ hj S.gr) (j:=i) hx ?_ ?_
     . intro h' F' a s' _ _
       simp only [BS,LB,cls,Nat.reduceLT,Nat.reduceEqDiff,Nat.reduceAdd,Nat.reducePow,Nat.reduceDiv,Nat.reduceMod,Nat.reduceLeDiff,r11,w]
       refine⟨by simp only [bH,bJ,aZ,bM,bn,ne_eq,not_false_eq_true,bT,cC,bE,bu,cg,dm,aU,Nat.reduceLT,Nat.reduceEqDiff,reduceIte,xq,r0,r1,r2,r3,ab,bw lv,aR lv],?_⟩
       exact ih (i+1) _ _ (by omega) ⟨by omega,F',s',a,by simp [aa,r0],by simp [aa,r1,ab],by simp [aa,r2,ab],by simp [aa,r3,ab],by simp [aa,r9],by simp [aa,r10],by simp [aa]⟩
     . intro h' a _
       simp only [BS,LB,cls,Nat.reduceLT,Nat.reduceEqDiff,Nat.reduceAdd,Nat.reducePow,Nat.reduceDiv,Nat.reduceMod,Nat.reduceLeDiff]
       refine⟨by simp only [bH,bJ,aZ,bM,bn,ne_eq,not_false_eq_true,bT,cC,bE,bu,cg,dm,aU,Nat.reduceLT,Nat.reduceEqDiff,reduceIte,xq,r0,r1,r2,r3,ab,bw lv,aR lv],?_⟩
       exact eQ rfl ⟨rfl,.inr (.inl ⟨_,rfl,a⟩)⟩
   . simp only [BS,LB,Nat.reduceLT,r10,r11,aG,hlt]
     have:i=ids.length:=by omega
     subst this
     exact cQ (c5 ⟨rfl,_,rfl,rfl,.inl ⟨_,F,rfl,by simpa [la]using hj⟩⟩)
 . exact⟨by omega,F,s,hj,by simp [aa,cm],by simp [aa,cm,ab],by simp [aa,cm,ab],by simp [aa,cm,ab],by simp [aa],by simp [aa],by simp [aa]⟩
open Tryz in
def Tryz.FFf4241:=aj a1<|aj s1<|aj z1<|aj n1<|aj u2<|aj a2<|aj s2<|aj z2<|aj i2<|aj u3<|aj a3<|aj s3<|aj z3<|aj i3<|aj u4<|aj a4<|aj s4<|aj z4<|aj n4<|aj u5<|aj a5<|aj s5<|aj z5<|aj i5<|aj u25<|aj a25<|aj s25<|aj z25<|aj q25<|aj n25<|aj u38<|aj a38<|aj s38<|aj z38<|aj q38<|aj n38<|aj u55<|aj a55<|aj s55<|aj z55<|aj i55<|aj u198<|aj a198<|aj s198<|aj z198<|aj q198<|aj i198<|aj n198<|aj u242<|aj a242<|aj s242<|aj z242<|aj n242<|aj a246<|aj s246<|aj z246<|aj i246<|aj n246<|aj p246<|aj ff246<|aj d246<|aj a266<|aj s266<|aj z266<|aj i266<|aj n266<|aj p266<|aj ff266<|aj d266<|aj a268<|aj s268<|aj z268<|aj i268<|aj n268<|aj p268<|aj ff268<|aj d268<|aj u309<|aj a309<|aj s309<|aj z309<|aj q309<|aj i309<|aj n309<|aj a312<|aj s312<|aj z312<|aj i312<|aj n312<|aj p312<|aj ff312<|d312
theorem ints_set(l:List Int)(i:Nat)(x:Int):(ints l).set i (.int .i64 x)=ints (l.set i x):=by
 have e4: ∀l:List Int,ints l=l.map fun x=>Value.int .i64 x:=fun l=>by
  unfold ints;rw [xt,xO,xt];rfl
 rw [e4,e4,List.map_set]
theorem reach_ok{h0:Hp}(ok:h0.t.Sized h0.n){br ba bc c N v arc far:Nat}{p vD vO:Value}{F:List Nat}{K:Nat->Option Int}{O:List Nat}{es:List (Value×Value×Nat)}{f:Int->Option Value}{aL:List Int}
 (R:Row h0 br [p,vD,.slice (some ⟨ba,0,none⟩) N N,vO,.map (some bc)] 1) (H:cj h0 F p N K) (hN:N<=1000) (hc:h0.get bc=some (.map es c)) (MI:dh es c f) (CF:ClF O f) (hA:Row h0 ba (ints aL) 1) (lA:aL.length=N) (hv:v<N)
 (d1:ba∉F) (d2:br∉F) (d3:br≠ba):
 Ret xd 241 [ptrTo br,.int .i64 v,.int .i64 arc,.int .i64 far] h0 fun _ h'=>Mo (fun c=>c∈F\/c=ba) h0 h'/\ ∃F' aL',cj h' F' p N (fZ O K v far)/\(∀b∈F',b∈F\/h0.n<=b)/\Row h' ba (ints aL') 1/\aL'.length=N/\((fZ O K v far=K/\aL'=aL)\/(v∉O/\fZ O K v far=bV K v (some (far:Int))/\aL'=aL.set v arc)):=by
 have S:=Si ok
 have hA0:=hA.lt ok
 have l0:=R.load1 (o:=0) rfl
 have l4:=R.load1 (o:=4) rfl
 have l2:=R.load1 (o:=2) rfl
 have pp: ∃b,p=ptrTo b:=by obtain⟨b,_,_,e,_⟩:=H.ex;exact⟨b,e⟩
 obtain⟨bp,rfl⟩:=pp
 refine ac (n:=59) (rs:=[]) rfl Tryz.e241 rfl rfl rfl (lbt rfl) ?_
 simp only [BS,LB,Nat.reduceLT,Nat.reduceEqDiff,Tryz.FFf4241,l0]
 refine aq (qy S.ok H) ?_
 intro h g;replace S:=S.call g;clear g
 replace hc:h.get bc=some (.map es c):=S.gr.at hc
 have H1:=H.gr S.gr
 have lk:=lookI_v (x:=(v:Int)) Tryz.u242 Tryz.u3 (z:=.int .i64 0) (by kernel_rfl) hc MI
 rw [CF v]at lk
 replace l0:=S.old l0 (fun h=>h)
 replace l4:=S.old l4 (fun h=>h)
 replace l2:=S.old l2 (fun h=>h)
 replace hA:Row h ba (ints aL) 1:=hA.gr S.gr
 have R1:=R.gr S.gr
 have gg:=S.gr
 by_cases hO:v∈O
 . rw [if_pos hO,xZ]at lk
   simp only [BS,LB,Nat.reduceLT,Nat.reduceEqDiff,Int.reduceLT,Tryz.FFf4241,l4,lk]
   exact⟨gg.fr,F,aL,by unfold fZ;rw [if_pos hO];exact H1,fun b hb=>.inl hb,hA,lA,.inl ⟨by unfold fZ;rw [if_pos hO],rfl⟩⟩
 . rw [if_neg hO,ya]at lk
   have hba:=hA.lt gg.ok
   cases hk:K v with
   | none=>
     have rk:fZ O K v far=bV K v (some (far:Int)):=by unfold fZ;rw [if_neg hO,hk]
     simp only [BS,LB,Nat.reduceLT,Nat.reduceEqDiff,Int.reduceLT,Tryz.FFf4241,l0,l4,lk,ya,Option.isSome_none]
     refine step_ret (mC gg.ok H1 hv hN hk) ?_
     rintro r h2 ⟨f2,F',H2,hF'⟩
     have ha2:Row h2 ba (ints aL) 1:=f2.has (o:=.row _ 1) hA d1
     have r2:Row h2 br [ptrTo bp,vD,.slice (some ⟨ba,0,none⟩) N N,vO,.map (some bc)] 1:=f2.has (o:=.row _ 1) R1 d2
     have l2':=r2.load1 (o:=2) rfl
     have S:=St.init1 f2.ok (o:=.row _ 1) ha2
     simp only [BS,LB,Nat.reduceLT,Nat.reduceEqDiff,Nat.reduceAdd,Tryz.FFf4241,l2',hv]
     refine az (aB S (i:=0) rfl Tryz.s3 bO (by rw [cN,lA];exact hv) ono) ?_
     clear S;rintro h3 ⟨S,mo⟩
     simp only [LC]at S
     rw [ints_set]at S
     simp only [BS]
     refine⟨(gg.fr.trans (f2.mono (fun c hc=>.inl hc)) (fun c hc=>.inl hc):Mo (fun c=>c∈F\/c=ba) h0 h2).trans mo (fun c hc=>.inl (.inr hc)),F',aL.set v arc,by rw [rk];exact H2.mo mo (fun b hb e=>by subst e;rcases hF' b hb with h|h;exact d1 h;omega),fun b hb=>(hF' b hb).imp (fun h=>h) (fun h=>xh gg.n h),S.row m0,by rw [List.length_set];exact lA,.inr ⟨hO,rk,rfl⟩⟩
   | some k=>
     by_cases hle:k<=(far:Int)
     . have rk:fZ O K v far=K:=by unfold fZ;rw [if_neg hO,hk];simp only [];rw [if_pos hle]
       simp only [BS,LB,Nat.reduceLT,Nat.reduceEqDiff,Int.reduceLT,Tryz.FFf4241,l4,lk,hle,xZ]
       exact⟨gg.fr,F,aL,by rw [rk];exact H1,fun b hb=>.inl hb,hA,lA,.inl ⟨rk,rfl⟩⟩
     . have rk:fZ O K v far=bV K v (some (far:Int)):=by unfold fZ;rw [if_neg hO,hk];simp only [];rw [if_neg hle]
       simp only [BS,LB,Nat.reduceLT,Nat.reduceEqDiff,Int.reduceLT,Tryz.FFf4241,l0,l4,lk,hle,xZ]
       refine step_ret (oz gg.ok H1 hN hk (by omega)) ?_
       rintro r h2 ⟨f2,H2⟩
       have ha2:Row h2 ba (ints aL) 1:=f2.has (o:=.row _ 1) hA d1
       have r2:Row h2 br [ptrTo bp,vD,.slice (some ⟨ba,0,none⟩) N N,vO,.map (some bc)] 1:=f2.has (o:=.row _ 1) R1 d2
       have l2':=r2.load1 (o:=2) rfl
       have S:=St.init1 f2.ok (o:=.row _ 1) ha2
       simp only [BS,LB,Nat.reduceLT,Nat.reduceEqDiff,Nat.reduceAdd,Tryz.FFf4241,l2',hv]
       refine az (aB S (i:=0) rfl Tryz.s3 bO (by rw [cN,lA];exact hv) ono) ?_
       clear S;rintro h3 ⟨S,mo⟩
       simp only [LC]at S
       rw [ints_set]at S
       simp only [BS]
       refine⟨(gg.fr.trans (f2.mono (fun c hc=>.inl hc)) (fun c hc=>.inl hc):Mo (fun c=>c∈F\/c=ba) h0 h2).trans mo (fun c hc=>.inl (.inr hc)),F,aL.set v arc,by rw [rk];exact H2.mo mo (fun b hb e=>by subst e;exact d1 hb),fun b hb=>.inl hb,S.row m0,by rw [List.length_set];exact lA,.inr ⟨hO,rk,rfl⟩⟩
open Tryz in
def Tryz.FFf5175:=aj a1<|aj s1<|aj z1<|aj n1<|aj u2<|aj a2<|aj s2<|aj z2<|aj i2<|aj u3<|aj a3<|aj s3<|aj z3<|aj i3<|aj u4<|aj a4<|aj s4<|aj z4<|aj n4<|aj u5<|aj a5<|aj s5<|aj z5<|aj i5<|aj u6<|aj a6<|aj s6<|aj z6<|aj i6<|aj a7<|aj s7<|aj z7<|aj i7<|aj n7<|aj p7<|aj ff7<|aj d7<|aj a8<|aj s8<|aj z8<|aj i8<|aj n8<|aj p8<|aj ff8<|aj d8<|aj u9<|aj a9<|aj s9<|aj z9<|aj n9<|aj u10<|aj a10<|aj s10<|aj z10<|aj n10<|aj u11<|aj a11<|aj s11<|aj z11<|aj n11<|aj u12<|aj a12<|aj s12<|aj z12<|aj i12<|aj a13<|aj s13<|aj z13<|aj i13<|aj n13<|aj p13<|aj ff13<|aj d13<|aj a14<|aj s14<|aj z14<|aj i14<|aj n14<|aj p14<|aj ff14<|aj d14<|aj u15<|aj a15<|aj s15<|aj z15<|aj q15<|aj i15<|aj n15<|aj u16<|aj a16<|aj s16<|aj z16<|aj q16<|aj i16<|aj n16<|aj u17<|aj a17<|aj s17<|aj z17<|aj q17<|aj i17<|aj n17<|aj u25<|aj a25<|aj s25<|aj z25<|aj q25<|aj n25<|aj a28<|aj s28<|aj z28<|aj i28<|aj n28<|aj p28<|aj ff28<|aj d28<|aj u29<|aj a29<|aj s29<|aj z29<|aj q29<|aj i29<|aj n29<|aj u38<|aj a38<|aj s38<|aj z38<|aj q38<|aj n38<|aj a42<|aj s42<|aj z42<|aj n42<|aj a49<|aj s49<|aj z49<|aj i49<|aj n49<|aj p49<|aj ff49<|aj d49<|aj u55<|aj a55<|aj s55<|aj z55<|aj i55<|aj u101<|aj a101<|aj s101<|aj z101<|aj q101<|aj n101<|aj a102<|aj s102<|aj z102<|aj n102<|aj u121<|aj a121<|aj s121<|aj z121<|aj q121<|aj i121<|aj n121<|aj u190<|aj a190<|aj s190<|aj z190<|aj q190<|aj n190<|aj a192<|aj s192<|aj z192<|aj i192<|aj n192<|aj p192<|aj ff192<|aj d192<|aj u198<|aj a198<|aj s198<|aj z198<|aj q198<|aj i198<|aj n198<|aj a219<|aj s219<|aj z219<|aj n219<|aj u242<|aj a242<|aj s242<|aj z242<|aj n242<|aj a246<|aj s246<|aj z246<|aj i246<|aj n246<|aj p246<|aj ff246<|aj d246<|aj a266<|aj s266<|aj z266<|aj i266<|aj n266<|aj p266<|aj ff266<|aj d266<|aj a268<|aj s268<|aj z268<|aj i268<|aj n268<|aj p268<|aj ff268<|aj d268<|aj u294<|aj a294<|aj s294<|aj z294<|aj i294<|aj u309<|aj a309<|aj s309<|aj z309<|aj q309<|aj i309<|aj n309<|aj a312<|aj s312<|aj z312<|aj i312<|aj n312<|aj p312<|aj ff312<|aj d312<|aj a314<|aj s314<|aj z314<|aj n314<|aj u324<|aj a324<|aj s324<|aj z324<|aj i324<|aj a357<|aj s357<|aj z357<|aj i357<|aj n357<|aj p357<|aj ff357<|aj d357<|aj u358<|aj a358<|aj s358<|aj z358<|aj n358<|aj a360<|aj s360<|aj z360<|aj i360<|aj n360<|aj u362<|aj a362<|aj s362<|aj z362<|aj i362<|aj a363<|aj s363<|aj z363<|aj n363<|aj u364<|aj a364<|aj s364<|aj z364<|aj i364<|aj u365<|aj a365<|aj s365<|aj z365<|aj i365<|aj a367<|aj s367<|aj z367<|aj i367<|aj n367<|aj p367<|aj ff367<|d367
def seen(A:List Arc)(fs ft:Arc->Nat):List Arc:=A.map fun a=>⟨fs a,ft a,a.w⟩
def NextF(E:Env)(g:FuncId)(γ:Gra)(pn:Value)(fs:Arc->Nat):Prop:= ∀(h:Hp) (nb:Nat),h.t.Sized h.n->aY h nb pn γ-> ∀v,v<γ.nodes->Ret E g [pn,.int .i64 (v:Nat)] h fun r h'=>Gr h h'/\aE h' 1 cw r (outs γ.arcs fs γ.arcs.length v)/\ ∀c,au r c->h.n<=c
def dl(l:List Nat):List Value:=l.flatMap cw
theorem jk(l:List Nat):dl l=l.map fun(x:Nat)=>Value.int .i64 x:=by
 unfold dl;rw [xt,xO,xt];rfl
theorem tt(l:List Int):ints l=l.map fun x=>Value.int .i64 x:=by
 unfold ints;rw [xt,xO,xt];rfl
theorem lI(l:List Nat):(dl l).length=l.length:=by rw [jk,xx]
theorem nats_app(l:List Nat)(x:Nat):dl (l++[x])=dl l++dl [x]:=by rw [jk,jk,jk,yc]
theorem seen_at{A:List Arc}{fs ft:Arc->Nat}{i:Nat}(hi:i<A.length):(seen A fs ft).getD i default=⟨fs (A.getD i default),ft (A.getD i default),(A.getD i default).w⟩/\(seen A fs ft).getD i default∈seen A fs ft:=by
 have e:(seen A fs ft).getD i default=⟨fs (A.getD i default),ft (A.getD i default),(A.getD i default).w⟩:=by
  unfold seen;simp [xe,hi]
 refine⟨e,?_⟩
 rw [xe,xf (by unfold seen;simpa using hi)]
 exact xi _
theorem seen_mem{A:List Arc}{fs ft:Arc->Nat}{a:Arc}(ha:a∈seen A fs ft): ∃i,i<A.length/\(seen A fs ft).getD i default=a:=by
 obtain⟨i,hi,e⟩:=List.mem_iff_getElem.1 ha
 exact⟨i,by unfold seen at hi;simpa using hi,by simp [xe,hi,e]⟩
def TreeAt(h':Hp)(m:Nat)(r:Value)(B:List Arc)(s N:Nat):Prop:= ∃vD vA vO D aL O,r=.agg ⟨[vD,vA,vO]⟩/\aE h' 1 cw vD ((xc N).map D)/\aE h' 1 (encI .i64) vA aL/\aE h' 1 cw vO O/\aL.length=N/\(∀v,IsD B s v (D v))/\(∀c,au vD c\/au vA c\/au vO c->m<=c)/\O.Nodup/\ ∀v∈O,v<N
theorem pC{h0:Hp}(ok:h0.t.Sized h0.n){F:List Nat}{p:Value}{N:Nat}{K:Nat->Option Int}(H:cj h0 F p N K)(hN:N<=1000):Ret xd 134 [p] h0 fun r h'=> ∃(v:Nat) (k:Int) (b:Bool),r=.tuple #[.int .i64 (v:Nat),.int .i64 k,.bool b]/\Mo (· ∈F) h0 h'/\cj h' F p N (if b=true then bV K v none else K)/\(b=true->K v=some k/\ ∀u k',K u=some k'->k<=k')/\(b=false-> ∀v,K v=none):=by
 refine ns (qr ok H hN) ?_
 rintro r h' (⟨rfl,h1,g⟩|⟨v,k,rfl,h1,h2,h3,h4⟩)
 . exact⟨0,0,false,rfl,g.fr,H.gr g,fun h=>(by cases h),fun _=>h1⟩
 . exact⟨v,k,true,rfl,h3,h4,fun _=>⟨h1,fun u k' h=>by have:=h2 u k' h;omega⟩,fun h=>(by cases h)⟩
def FloodI(h0:Hp)(B:List Arc)(s N b9 br bc ba bd b8 bP bp:Nat)(gN gE:FuncId)(O:List Nat)(ρ:Nat->Value)(d:List Deferred)(h:Hp):Prop:=
 ∃ (dbs:List Nat) (D:Nat->Nat) (K:Nat->Option Int) (F:List Nat) (es:List (Value×Value×Nat)) (c:Nat) (f:Int->Option Value) (aL:List Int) (vO:Value) (bk:Nat) (v:Nat) (key:Int) (b:Bool),d=dbs.map mj/\
   St NoM h0 h ([(bk,Ob.row [.int .i64 key] 1),(b9,.row [ptrTo br] 1),(br,.row [ptrTo bP,.slice (some ⟨bd,0,none⟩) N N,.slice (some ⟨ba,0,none⟩) N N,vO,.map (some bc)] 1),(bc,.map es c),(ba,.row (ints aL) 1),(bd,.row (dl ((xc N).map D)) 1),(b8,.row [.slice none 0 0,.slice none 0 0,.slice none 0 0] 1)]++cD dbs) [(vO,1,dl O)]/\
   (∀c'∈F,h0.n<=c'/\c'∉keys ([(bk,Ob.row [.int .i64 key] 1),(b9,.row [ptrTo br] 1),(br,.row [ptrTo bP,.slice (some ⟨bd,0,none⟩) N N,.slice (some ⟨ba,0,none⟩) N N,vO,.map (some bc)] 1),(bc,.map es c),(ba,.row (ints aL) 1),(bd,.row (dl ((xc N).map D)) 1),(b8,.row [.slice none 0 0,.slice none 0 0,.slice none 0 0] 1)]++cD dbs) [(vO,1,dl O)])/\
   aL.length=N/\dh es c f/\ClF O f/\Dj B s N O D K (fun _=>False)/\cj h F (ptrTo bP) N (if b=true then bV K v none else K)/\(b=true->K v=some key/\ ∀u k',K u=some k'->key<=k')/\(b=false-> ∀v,K v=none)/\
   ρ 0=ptrTo bp/\ρ 2=.func (.func gN) #[ptrTo bp] #[]/\ρ 3=.func (.func gE) #[] #[]/\ρ 8=ptrTo b8/\ρ 9=ptrTo b9/\ρ 10=.int .i64 v/\ρ 11=ptrTo bk/\ρ 12=.bool b
theorem flood_ok {h0:Hp} (ok:h0.t.Sized h0.n) {γ:Gra} (hγ:Good γ) {pn:Value} {nb:Nat} (hn:aY h0 nb pn γ) {s:Nat} (hs:s<γ.nodes) {gN gE:FuncId} {fs ft:Arc->Nat} (hN:NextF xd gN γ pn fs) (hE:KeyF xd gE ft) (hft: ∀a∈γ.arcs,ft a<γ.nodes):
 Ret xd 175 [pn,.int .i64 s,.func (.func gN) #[pn] #[],.func (.func gE) #[] #[]] h0 fun r h'=>Gr h0 h'/\TreeAt h' h0.n r (seen γ.arcs fs ft) s γ.nodes:=by
 have n1:=hγ.n1
 have n2:=hγ.n2
 have S:=Si ok
 have c1: ¬((s:Int)<0):=by omega
 have c2: ¬((γ.nodes:Int)<=(s:Int)):=by omega
 obtain⟨bp,epn⟩: ∃b,pn=ptrTo b:=by obtain⟨b,_,_,_,_,_,e,_⟩:=hn.ex;exact⟨b,e⟩
 subst epn
 refine ac (n:=117) (rs:=[.cell 8 246]) rfl Tryz.e175 rfl rfl rfl (lbt rfl) ?_
 simp only [BS,Tryz.FFf5175]
 refine ag ax S ?_;clear S;intro h b8 S n_b8
 simp only [BS,LB,Nat.reduceLT,Nat.reduceEqDiff,Tryz.FFf5175,c1]
 refine aq (cE S.ok (hn.gr S.gr)) ?_;intro h g;replace S:=S.call g;clear g
 simp only [BS,LB,Nat.reduceLT,Nat.reduceEqDiff,c2]
 refine aq (cE S.ok (hn.gr S.gr)) ?_;intro h g;replace S:=S.call g;clear g
 simp only [BS,LB,Nat.reduceLT,Nat.reduceEqDiff]
 have nF:=S.fr.n
 have kF:=fun {c} (hc:c∈_)=>S.key_lt (b:=c) hc
 refine step_ret (qU S.ok) ?_;intro v h ⟨g,Fh,H,hFn⟩;replace S:=S.call g;clear g
 rename Value=>p
 have dF: ∀c∈Fh,c∉keys [(b8,Ob.row [.slice none 0 0,.slice none 0 0,.slice none 0 0] 1)] []:=fun c hc hm=>by have:=kF hm;have:=hFn c hc;omega
 have lF:=H.lt S.ok
 have S0:=S
 have gF: ∀c∈Fh,h0.n<=c\/NoM c:=fun c hc=>.inl (xh nF (hFn c hc))
 replace S:=S.base
 simp only [BS,LB]
 refine ag (bW (by exact Tryz.u25) (by exact Tryz.e2E) (by decide) (by rfl)) S ?_;clear S;intro h bs1 S n_bs1;simp only [LC,aP,bj,ah,Nat.reduceMul,Nat.reduceAdd,xG,xA,xI,xJ]at S
 simp only [BS,LB,Nat.reduceLT,Nat.reduceEqDiff]
 refine aq (cE S.ok (hn.gr (S0.rebase S).gr)) ?_;intro h g;replace S:=S.call g;clear g
 simp only [BS,LB,Nat.reduceLT,Nat.reduceEqDiff]
 have kl:=fun {c} (hc:c∈_)=>S.key_lt (b:=c) hc
 have kn:=S.fr.n
 refine step_ret (rep64_ok S.ok (x:=72057594037927936) (.inr ⟨bs1,0,none,1,rfl,xn _,S.lds (b:=bs1) (o:=0) (n:=1*1) m0 (lbt rfl)⟩) n1 (by omega)) ?_;intro v h ⟨g,bd,ed,nd,Rd⟩;replace S:=S.call g;clear g
 subst ed
 replace S:=S.drop1
 replace S:=S.push (b:=bd) (o:=.row _ 1) (.inl (xh kn nd)) Rd (fun hm=>by have:=kl (xE _ hm);omega)
 simp only [BS,LB]
 refine ag (bW (by exact xX) (by exact xY) (by decide) (by rfl)) S ?_;clear S;intro h bs2 S n_bs2;simp only [LC,aP,bj,ah,Nat.reduceMul,Nat.reduceAdd,xG,xA,xI,xJ]at S
 simp only [BS,LB,Nat.reduceLT,Nat.reduceEqDiff]
 refine aq (cE S.ok (hn.gr (S0.rebase S).gr)) ?_;intro h g;replace S:=S.call g;clear g
 simp only [BS,LB,Nat.reduceLT,Nat.reduceEqDiff]
 have kl2:=fun {c} (hc:c∈_)=>S.key_lt (b:=c) hc
 have kn2:=S.fr.n
 refine step_ret (repI_ok S.ok (x:= -1) (.inr ⟨bs2,0,none,1,rfl,xn _,S.lds (b:=bs2) (o:=0) (n:=1*1) m0 (lbt rfl)⟩) n1 (by omega)) ?_;intro v h ⟨g,ba,ea,na,Ra⟩;replace S:=S.call g;clear g
 subst ea
 replace S:=S.drop1
 replace S:=S.push (b:=ba) (o:=.row _ 1) (.inl (xh kn2 na)) Ra (fun hm=>by have:=kl2 (xE _ hm);omega)
 have pp: ∃b,p=ptrTo b:=by obtain⟨b,_,_,e,_⟩:=H.ex;exact⟨b,e⟩
 obtain⟨bP,rfl⟩:=pp
 simp only [BS,LB,Nat.reduceLT,Nat.reduceEqDiff,Nat.reduceAdd,Tryz.FFf5175]
 refine ag rG S ?_;clear S;intro h bc S n_bc
 simp only [BS,LB,Nat.reduceLT,Nat.reduceEqDiff,Nat.reduceAdd,Nat.reduceLeDiff,Tryz.FFf5175]
 refine ag (bR (by intro x e;cases e)) S ?_;clear S;intro h br S n_br;simp only [ah]at S
 simp only [BS,Tryz.FFf5175]
 refine ag ax S ?_;clear S;intro h b9 S n_b9
 simp only [BS,LB,Nat.reduceLT,Nat.reduceEqDiff]
 refine az (aB S (i:=0) rfl ?_ ?_ ?_ ono) ?_
 . exact(by simp only [Tryz.FFf5175])
 . exact(by exact dR)
 . exact xj (lbt rfl)
 clear S;rintro h ⟨S,mo⟩;clear mo;simp only [LC,ah,lay,xo,xp,Nat.reduceAdd]at S
 simp only [BS,LB,Nat.reduceLT,Nat.reduceEqDiff,Tryz.FFf5175,S.ld (b:=b9) (o:=0) m0 rfl,S.ld (b:=br) (o:=0) m1 rfl]
 have d8: ∀c∈Fh,c≠b8:=fun c hc e=>dF c hc (by rw [e];simp [keys])
 have nd':=xh kn nd
 have na':=xh kn2 na
 clear kl kl2 kF kn nd kn2 na Ra Rd
 have HA:=H.mo S.fr dF
 have dis: ∀c∈Fh,c≠b9/\c≠br/\c≠bc/\c≠ba/\c≠bd/\c≠b8:=fun c hc=>by have:=lF c hc;have:=d8 c hc;omega
 replace S:=S0.rebase S
 clear S0 dF lF d8 H n_bs1 n_bs2
 have T:=S.baseF Fh
 have nh:=S.fr.n
 have hF1: ∀L,(∀c∈keys L [],c=b9\/c=br\/c=bc\/c=ba\/c=bd\/c=b8)-> ∀c∈Fh,c∉keys L []:=fun L hL c hc hm=>by
  have:=dis c hc
  have:=hL c hm
  omega
 have ps:Ret xd 207 [ptrTo bP,.int .i64 (s:Nat),.int .i64 0] h _:=mC S.ok HA hs (by omega) rfl
 refine step_ret ps ?_
 rintro r h1 ⟨f1,F1,H1,hF'⟩
 replace S:=S.rebaseF gF (T.stepF f1 (fun c hc=>⟨.inl (.inr hc),hF1 _ (fun c hc=>by simpa [keys]using hc) c hc⟩))
 have hF1': ∀c∈F1,h0.n<=c/\c∉keys [(b9,Ob.row [ptrTo br] 1),(br,.row [ptrTo bP,.slice (some ⟨bd,0,none⟩) γ.nodes γ.nodes,.slice (some ⟨ba,0,none⟩) γ.nodes γ.nodes,.slice none 0 0,.map (some bc)] 1),(bc,.map [] 0),(ba,.row (xB γ.nodes (.int .i64 (-1))) 1),(bd,.row (xB γ.nodes (.int .i64 72057594037927936)) 1),(b8,.row [.slice none 0 0,.slice none 0 0,.slice none 0 0] 1)] []:=fun c hc=>by
  rcases hF' c hc with h2|h2
  . exact⟨(gF c h2).elim (fun h=>h) (fun h=>h.elim),hF1 _ (fun c hc=>by simpa [keys]using hc) c h2⟩
  . refine⟨xh nh h2,fun hm=>?_⟩
    have:=T.key_lt (b:=c) (by simpa [keys]using hm)
    omega
 clear T hF1 dis hFn gF nF hF' HA f1
 replace S:=S.nilG (k:=1)
 have dj:=dj_init (B:=seen γ.arcs fs ft) hs
 have lF1:=H1.lt S.ok
 have S1:=S
 replace S:=S.baseF F1
 simp only [BS,LB,Nat.reduceLT,Nat.reduceEqDiff,Tryz.FFf5175,S.ld (b:=b9) (o:=0) m0 rfl,S.ld (b:=br) (o:=0) m1 rfl]
 refine step_ret (pC S.ok H1 (by omega)) ?_
 rintro r h2 ⟨v,k,b,rfl,f2,H2,hb1,hb2⟩
 replace S:=S.stepF f2 (fun c hc=>⟨.inl (.inr hc),fun hm=>(hF1' c hc).2 (by simpa [keys,dw]using hm)⟩)
 simp only [BS,LB,Nat.reduceLT,Nat.reduceEqDiff,Tryz.FFf5175]
 have S2:=S
 replace S:=S.base
 refine ag ax S ?_;clear S;intro h bk S n_bk
 simp only [BS,LB,Nat.reduceLT,Nat.reduceEqDiff]
 refine az (aB S (i:=0) rfl ?_ ?_ ?_ ono) ?_
 . exact(by simp only [Tryz.FFf5175])
 . exact(by exact bO)
 . exact xj (lbt rfl)
 clear S;rintro h ⟨S,mo⟩;clear mo;simp only [LC,ah,lay,xo,xp,Nat.reduceAdd]at S
 simp only [BS,LB,Nat.reduceLT,Nat.reduceEqDiff]
 have H3:=H2.mo S.fr (fun c hc hm=>(hF1' c hc).2 (by simpa [keys,dw]using hm))
 refine me (FloodI h0 (seen γ.arcs fs ft) s γ.nodes b9 br bc ba bd b8 bP bp gN gE) (fun O=>γ.nodes-O.length) ?_ [] _ _ _ ?_
 . clear S S1 S2 H3 hb1 hb2 H2 f2 H1 dj hF1' lF1 ps
   intro O ih ρ d hS ⟨dbs,D,K,F,es,c,f,aL,vO,bk,v,key,b,hd,S0,hF,lA,MI,CF,dj,H,hb1,hb2,r0,r2,r3,r8,r9,r10,r11,r12⟩
   simp only [List.cons_append,List.nil_append]at S0 hF
   have S:=S0.base
   cases b with
   | false=>
     simp only [BS,LB,Nat.reduceLT,Nat.reduceEqDiff,Tryz.FFf5175,r8,r9,r12,S.ld (b:=b9) (o:=0) m1 rfl,S.lds (b:=br) (o:=1) (n:=3) m2 (lbt rfl)]
     have fvO:Fl vO:=by
      rcases(S0.gown _ m0).1 with⟨e,_⟩|⟨_,_,e,_⟩
      . rw [show vO=_ from e];exact cy
      . rw [show vO=_ from e];exact cy
     refine az (S.store (i:=6) rfl ye (by intro x e;cases e) rfl (by simp only [ah,List.drop_succ_cons,xP,List.take_succ_cons,List.take_zero,yj,yp,fvO.2.1,xq];rfl) (lbt rfl) ono) ?_
     clear S;rintro h ⟨S,_⟩
     simp only [LC,ah,lay,xo,xp,Nat.reduceAdd]at S
     simp only [BS]
     replace S:=(S0.rebase S).permL (L':=cD dbs++[(bk,_),(b9,_),(br,_),(bc,_),(ba,_),(bd,_),(b8,_)]) yh
     subst hd
     refine fF (jn dbs _ S fun h' S'=>?_)
     have lT:=S'.lds (b:=b8) (o:=0) (n:=3) m6 (lbt rfl)
     refine⟨rfl,_,pb (by decide) (by simp only [aU,r8,ab,Nat.reduceEqDiff,reduceIte];exact dH Tryz.a246 ye lT),S'.gr,?_⟩
     refine⟨_,_,_,D,aL,O,rfl,?_,?_,?_,lA,dj.done (hb2 rfl) n2,?_,dj.nd,dj.lt⟩
     . refine .inr ⟨bd,0,none,γ.nodes,by rw [xx,xz],by rw [xx,xz];exact xn _,?_⟩
       have:=(S'.row (b:=bd) m5).load (o:=0) (n:=((xc γ.nodes).map D).length*1) (by rw [lI];omega)
       rw [this,xP,yg (by rw [lI];omega)];rfl
     . refine .inr ⟨ba,0,none,γ.nodes,by rw [lA],by rw [lA];exact xn _,?_⟩
       have:=(S'.row (b:=ba) m4).load (o:=0) (n:=aL.length*1) (by rw [cN];omega)
       rw [this,xP,yg (by rw [cN];omega)];rfl
     . exact(S'.gown _ m0).1.sl rfl dU (by decide)
     . rintro c (h|h|h)
       . have h:bd=c:=h
         subst h;exact((S'.own _ m5).1).elim (fun h=>h) (fun h=>h.elim)
       . have h:ba=c:=h
         subst h;exact((S'.own _ m4).1).elim (fun h=>h) (fun h=>h.elim)
       . exact((S'.gblk m0 h).1).elim (fun h=>h) (fun h=>h.elim)
   | true =>
     simp only [if_true]at H
     obtain⟨hk,hmin⟩:=hb1 rfl
     obtain⟨_,n,rfl,_,_⟩:=dj.i3 v key hk
     obtain⟨dj2,hvO,hvN,hnb⟩:=dj.pop hk hmin
     have lk:=lookI_v (x:=(v:Int)) Tryz.u242 Tryz.u3 (z:=.int .i64 0) (by kernel_rfl) (show hS.get bc=some (.map es c)from(S.own _ m3).2) MI
     rw [CF v,if_neg hvO,ya]at lk
     have w1:ao .i64 1=1:=rfl
     simp only [BS,LB,Nat.reduceLT,Nat.reduceEqDiff,Int.reduceAdd,Tryz.FFf5175,r9,r10,r12,lk,w1,S.ld (b:=b9) (o:=0) m1 rfl,S.ld (b:=br) (o:=4) m2 rfl]
     refine az (S.mputI (i:=3) rfl Tryz.u242 Tryz.u3 MI _) ?_
     clear S;rintro h ⟨_,es',c',MI',S⟩
     simp only [LC]at S
     simp only [BS]
     refine aA (aI rfl) (q:=0) (ps:=[]) (by kernel_rfl) ?_
     simp only [BS,LB,cls,Nat.reduceLT,Nat.reduceEqDiff,Nat.reduceAdd,Nat.reducePow,Nat.reduceDiv,Nat.reduceMod,Nat.reduceLeDiff,Tryz.FFf5175,r9,r10,r11,hvN,S.ld (b:=b9) (o:=0) m1 rfl,S.ld (b:=br) (o:=1) m2 rfl,S.ld (b:=bk) (o:=0) m0 rfl]
     refine dV (aB S (i:=5) rfl Tryz.s2 bO (by rw [lI,xx,xz];exact hvN) ono) ?_
     clear S;rintro h ⟨S,_⟩
     simp only [LC]at S
     have eD:(dl ((xc γ.nodes).map D)).set v (.int .i64 (n:Nat))=dl ((xc γ.nodes).map fun u=>if u=v then n else D u):=by
      rw [jk,jk,List.map_map,List.map_map]
      have:=gw (N:=γ.nodes) (k:=v) (F:=(fun(x:Nat)=>Value.int .i64 x)∘D) (F':=(fun(x:Nat)=>Value.int .i64 x)∘fun u=>if u=v then n else D u) (fun u _ hu=>by simp [hu])
      rw [<-this];simp
     rw [eD]at S
     simp only [BS,LB,Nat.reduceAdd]
     refine aA (aI rfl) (q:=128) (ps:=[(0,8)]) (by kernel_rfl) ?_
     simp only [BS,LB,cls,Nat.reduceLT,Nat.reduceEqDiff,Nat.reduceAdd,Nat.reducePow,Nat.reduceDiv,Nat.reduceMod,Nat.reduceLeDiff,Tryz.FFf5175,r9,r10,S.ld (b:=b9) (o:=0) m1 rfl,S.ld (b:=br) (o:=3) m2 rfl]
     refine dT (bW (by exact xX) (by exact xY) (by decide) (by rfl)) S ?_;clear S;intro h bs S n_bs e_bs;simp only [LC,aP,bj,ah,Nat.reduceMul,Nat.reduceAdd,xG,xA,xI,xJ]at S
     simp only [BS,LB,cls,Nat.reduceLT,Nat.reduceEqDiff,Nat.reduceAdd,Nat.reducePow,Nat.reduceDiv,Nat.reduceMod,Nat.reduceLeDiff]
     have src:aO h 1 (.slice (some ⟨bs,0,none⟩) 1 1)=some (1,dl [v]):=by simp only [aO];rw [S.lds (b:=bs) (o:=0) (n:=1*1) m0 (lbt rfl)];rfl
     replace S:=S.drop1
     refine dn_v (S.grow (j:=0) (m:=1) (new:=dl [v]) rfl xX xY (by decide) Tryz.n38 src rfl (by decide) rfl (by rw [lI,lI];have:=dj.len;simp;omega)) ?_
     clear S src;rintro h vO' S
     simp only [LC,<-nats_app]at S
     have fvO:Fl vO':=by
      rcases(S.gown _ m0).1 with⟨e,_⟩|⟨_,_,e,_⟩
      . rw [show vO'=_ from e];exact cy
      . rw [show vO'=_ from e];exact cy
     simp only [BS,LB,cls,Nat.reduceLT,Nat.reduceEqDiff,Nat.reduceAdd,Nat.reducePow,Nat.reduceDiv,Nat.reduceMod,Nat.reduceLeDiff,Tryz.FFf5175]
     refine dV (aB S (i:=2) rfl Tryz.s38 fvO (xj (lbt rfl)) ono) ?_
     clear S;rintro h ⟨S,_⟩
     simp only [LC]at S
     simp only [BS,LB,Nat.reduceLT,Nat.reduceEqDiff,Nat.reduceAdd,r0,r2,r10]
     have pv:vO=.slice none 0 0\/ ∃c n,vO=.slice (some ⟨c,0,some 1⟩) n n/\c≠b9:=by
      rcases(S0.gown _ m0).1 with⟨e,_⟩|⟨c,n,e,_⟩
      . exact .inl e
      . refine .inr ⟨c,n,e,fun h=>?_⟩
        exact(S0.gblk (c:=c) m0 (by rw [show vO=_ from e];rfl)).2 (by subst h;exact yl (f:=Prod.fst) m1)
     refine⟨?_,?_⟩
     . clear ih
       rcases pv with rfl|⟨cO,nO,rfl,hne⟩
       . simp only [bH,bJ,aZ,bM,bn,ne_eq,not_false_eq_true,bT,cC,bE,bu,cg,dm,aU,Nat.reduceLT,Nat.reduceEqDiff,reduceIte,xq,r9,ab,tY,noteSl,pair_x,entry_nl,nC]
       . simp only [bH,bJ,aZ,bM,bn,ne_eq,not_false_eq_true,bT,cC,bE,bu,cg,dm,aU,Nat.reduceLT,Nat.reduceEqDiff,reduceIte,xq,r9,ab,tY,noteSl,li hne,li hne.symm]
     have kO: ∀c∈keys ((bk,Ob.row [.int .i64 (n:Nat)] 1)::(b9,.row [ptrTo br] 1)::(br,.row [ptrTo bP,.slice (some ⟨bd,0,none⟩) γ.nodes γ.nodes,.slice (some ⟨ba,0,none⟩) γ.nodes γ.nodes,vO,.map (some bc)] 1)::(bc,.map es c)::(ba,.row (ints aL) 1)::(bd,.row (dl ((xc γ.nodes).map D)) 1)::(b8,.row [.slice none 0 0,.slice none 0 0,.slice none 0 0] 1)::cD dbs) [(vO,1,dl O)],c<hS.n:=fun c hc=>S0.key_lt hc
     have kS:=fun {c} hc=>S.key_lt (b:=c) hc
     have ge0:=(S0.rebase S).gr.n
     refine step_ret (hN _ nb S.ok (hn.gr (S0.rebase S).gr) v hvN) ?_
     rintro vl h ⟨g,sl,hcl⟩
     have kn:=S.fr.n
     have gn:=g.n
     replace S:=S.call g;clear g
     simp only [BS,LB,Nat.reduceLT,Nat.reduceEqDiff,r3]
     have kn2:=S.fr.n
     have lvl:=fun {c} hc=>sl.lt S.ok (b:=c) hc
     refine step_ret (arcs_ok' S.ok dR sl.fl iG) ?_;intro v h ⟨g,b1,b2,b3,e,q1,q2,q3,y1,y2,y3⟩;replace S:=S.call g;replace sl:=sl.gr g;clear g
     subst e
     simp only [BS]
     have hH:=H.mo S.fr (fun c hc hm=>(hF c hc).2 hm)
     have lFS:=H.lt S0.ok
     refine iC S (g:=263) (a:=#[]) (b:=#[ptrTo b1,ptrTo b2,ptrTo b3]) (by simp [cg,aa,ab]) rfl rfl ?_
     intro h2 db lb S' hdb hlb g2
     have R1:=S0.rebase S'
     obtain⟨X,hX,R1⟩: ∃X:eF,X=_/\St NoM h0 h2 ((lb,.loop X)::(db,.dfr)::(bk,Ob.row [.int .i64 (n:Nat)] 1)::(b9,.row [ptrTo br] 1)::(br,.row [ptrTo bP,.slice (some ⟨bd,0,none⟩) γ.nodes γ.nodes,.slice (some ⟨ba,0,none⟩) γ.nodes γ.nodes,vO',.map (some bc)] 1)::(bc,.map es' c')::(ba,.row (ints aL) 1)::(bd,.row (dl ((xc γ.nodes).map fun u=>if u=v then n else D u)) 1)::(b8,.row [.slice none 0 0,.slice none 0 0,.slice none 0 0] 1)::cD dbs) [(vO',1,dl (O++[v]))]:=⟨_,rfl,R1⟩
     have CF':ClF (O++[v]) (dG f (v:Int) (some (.int .i64 1))):=fun u=>by
      unfold dG
      by_cases e:u=v
      . subst e;simp
      . have e': ¬((u:Int)=(v:Int)):=by omega
        rw [if_neg e',CF u]
        simp [e]
     have hJ :Yld xd lb (fun k h' F'=> ∃K' Fh aL',St NoM h0 h' ((lb,.loop X)::(db,.dfr)::(bk,Ob.row [.int .i64 (n:Nat)] 1)::(b9,.row [ptrTo br] 1)::(br,.row [ptrTo bP,.slice (some ⟨bd,0,none⟩) γ.nodes γ.nodes,.slice (some ⟨ba,0,none⟩) γ.nodes γ.nodes,vO',.map (some bc)] 1)::(bc,.map es' c')::(ba,.row (ints aL') 1)::(bd,.row (dl ((xc γ.nodes).map fun u=>if u=v then n else D u)) 1)::(b8,.row [.slice none 0 0,.slice none 0 0,.slice none 0 0] 1)::cD dbs) [(vO',1,dl (O++[v]))]/\
      cj h' Fh (ptrTo bP) γ.nodes K'/\(∀c∈Fh,h0.n<=c/\c∉keys ((lb,.loop X)::(db,.dfr)::(bk,Ob.row [.int .i64 (n:Nat)] 1)::(b9,.row [ptrTo br] 1)::(br,.row [ptrTo bP,.slice (some ⟨bd,0,none⟩) γ.nodes γ.nodes,.slice (some ⟨ba,0,none⟩) γ.nodes γ.nodes,vO',.map (some bc)] 1)::(bc,.map es' c')::(ba,.row (ints aL') 1)::(bd,.row (dl ((xc γ.nodes).map fun u=>if u=v then n else D u)) 1)::(b8,.row [.slice none 0 0,.slice none 0 0,.slice none 0 0] 1)::cD dbs) [(vO',1,dl (O++[v]))])/\
      aL'.length=γ.nodes/\Dj (seen γ.arcs fs ft) s γ.nodes (O++[v]) (fun u=>if u=v then n else D u) K' (fun a=> ∃id∈(outs γ.arcs fs γ.arcs.length v).drop k,(seen γ.arcs fs ft).getD id default=a)/\
      F'=keys ((lb,.loop X)::(db,.dfr)::(bk,Ob.row [.int .i64 (n:Nat)] 1)::(b9,.row [ptrTo br] 1)::(br,.row [ptrTo bP,.slice (some ⟨bd,0,none⟩) γ.nodes γ.nodes,.slice (some ⟨ba,0,none⟩) γ.nodes γ.nodes,vO',.map (some bc)] 1)::(bc,.map es' c')::(ba,.row (ints aL') 1)::(bd,.row (dl ((xc γ.nodes).map fun u=>if u=v then n else D u)) 1)::(b8,.row [.slice none 0 0,.slice none 0 0,.slice none 0 0] 1)::cD dbs) [(vO',1,dl (O++[v]))]++Fh) (fun _ _=>False) (la γ.arcs ft (outs γ.arcs fs γ.arcs.length v)):=by
      clear ih S' R1 y1 y2 y3 hH S g2 H hF sl
      refine⟨?_,?_,fun _ _ h=>h.elim,?_⟩
      . rintro k h F' ⟨K',Fh,aL',S,H,hF,_,_,rfl⟩
        exact⟨S.ok,fun b hb=>(List.mem_append.1 hb).elim (fun hb=>S.key_lt hb) (fun hb=>H.lt S.ok b hb)⟩
      . rintro k h F' h' ⟨K',Fh,aL',S,H,q⟩ g
        exact⟨K',Fh,aL',S.call g,H.gr g,q⟩
      . rintro k x h F' hx ⟨K',Fh,aL',S,H,hF,lA',dj',rfl⟩
        have hkl:k<(outs γ.arcs fs γ.arcs.length v).length:=by
         have:=(List.getElem?_eq_some_iff.1 hx).1
         simpa [la]using this
        unfold la at hx
        rw [xk,xf hkl]at hx
        cases hx
        have hm:=eY.1 (xi hkl)
        rw [xW hkl]at dj'
        generalize(outs γ.arcs fs γ.arcs.length v)[k]=id at hm dj'
        obtain⟨hid,hfs⟩:=hm
        subst hX
        refine iB (S.get m0) (by rw [Tryz.e175];rfl) rfl ?_
        have S1:=S
        replace S:=S.base
        simp only [BS,LB,Nat.reduceLT,Nat.reduceEqDiff,Tryz.FFf5175]
        refine ag ax S ?_;clear S;intro h b14 S n_b14
        simp only [BS,LB,Nat.reduceLT,Nat.reduceEqDiff,Int.cast_ofNat_Int,cl]
        refine az (S.store (i:=0) rfl ?_ ?_ rfl rfl ?_ ono) ?_
        . exact(by exact yi)
        . exact(by intro x e;cases e)
        . exact lbt rfl
        clear S;rintro h ⟨S,mo⟩;clear mo;simp only [LC,ah,lay,xo,xp,Nat.reduceAdd]at S
        simp only [BS]
        refine gJ S (i:=1) rfl rfl rfl rfl rfl ?_
        clear S;intro h S
        simp only [LC]at S
        have amem:γ.arcs.getD id default∈γ.arcs:=by rw [xe,xf hid];exact xi hid
        have aok:=hγ.arcs _ amem
        have hol:O.length*cL<=12*cL:=xL _ (xh dj.len n2)
        have wmax:=jM
        have wn:ao .i64 ((n:Int)+((γ.arcs.getD id default).w:Int))=((n+(γ.arcs.getD id default).w:Nat):Int):=by rw [wrap64]<;>omega
        simp only [BS,LB,Nat.reduceLT,Nat.reduceEqDiff,Tryz.FFf5175,r9,r11,wn,S.ld (b:=b9) (o:=0) m4 rfl,S.ld (b:=b14) (o:=1) m0 rfl,S.ld (b:=b14) (o:=2) m0 rfl,S.ld (b:=bk) (o:=0) m3 rfl]
        have hH:=H.mo S.fr (fun c hc hm=>(hF c hc).2 hm)
        have lF2:=H.lt S1.ok
        have d3:br≠ba:=fun e=>by
         have ap:=S1.apart
         subst e
         simp only [keys,xU,List.cons_append,List.nodup_cons,xK]at ap
         exact ap.2.2.2.2.1 (.inr (.inl trivial))
        replace S:=S.mono (M':=fun c=>c∈keys _ _\/c∈Fh) (fun _ h=>.inl h)
        refine step_ret (reach_ok S.ok (arc:=id) (far:=n+(γ.arcs.getD id default).w) (S.row m5) hH (by omega) (S.own _ m6).2 MI' CF' (S.row m7) lA' (hft _ amem) (fun h=>(hF ba h).2 (by simp [keys])) (fun h=>(hF br h).2 (by simp [keys])) d3) ?_
        rintro r h ⟨f1,F2,aL2,H2,hF2,hA2,lA2,rel⟩
        have kq:=fun {c} hc=>S.key_lt (b:=c) hc
        have qn:=S.fr.n
        have S2:=S.callF (i:=7) (Fh:=Fh) rfl f1 (fun c hc=>⟨.inl (.inr hc),fun hm=>by
         rcases List.mem_cons.1 hm with e|hm
         . have:=lF2 c hc;omega
         . exact(hF c hc).2 hm⟩) (o':=.row _ 1) hA2
        simp only [xH,xR]at S2
        clear S
        simp only [BS]
        have S:=S2.base
        refine ee S (i:=1) rfl ?_
        clear S;intro h S
        simp only [LC]at S
        have H3:=H2.mo S.fr (fun c hc hm=>by
         rcases hF2 c hc with h1|h1
         . rcases List.mem_cons.1 hm with e|hm
           . have:=lF2 c h1;omega
           . exact(hF c h1).2 hm
         . have:=kq hm;omega)
        have S3:=S2.rebase S
        refine .inl ⟨rfl,_,⟨_,F2,aL2,S1.rebaseF (fun c hc=>.inl (hF c hc).1) S3.drop1,H3,fun c hc=>?_,lA2,?_,rfl⟩,S3.fr.mono (fun c hc=>List.mem_append.2 hc),fun c hc=>?_⟩
        . rcases hF2 c hc with h1|h1
          . exact hF c h1
          . refine⟨xh S1.fr.n (xh qn h1),fun hm=>?_⟩
            have:=kq (xE _ hm)
            omega
        . obtain⟨e1,e2⟩:=seen_at (fs:=fs) (ft:=ft) hid
          have:=dj'.relaxed (ex':=fun a=> ∃id'∈(outs γ.arcs fs γ.arcs.length v).drop (k+1),(seen γ.arcs fs ft).getD id' default=a) e2 (by rw [e1];show fs _∈_;rw [hfs];simp) (by rw [e1];exact hft _ amem) (by rw [e1];simp only [hfs,if_true];rw [xS,List.length_singleton,Nat.succ_mul];omega) (fun b hb hx=>by
           by_cases eb:b=(seen γ.arcs fs ft).getD id default
           . exact .inr eb
           . left
             rintro⟨i,hi,rfl⟩
             rcases List.mem_cons.1 hi with e|hi
             . subst e;exact eb rfl
             . exact hx ⟨i,hi,rfl⟩)
          simp only [e1,hfs,if_true]at this
          exact this
        . rcases List.mem_append.1 hc with hc|hc
          . exact .inl (List.mem_append_left _ hc)
          . rcases hF2 c hc with h1|h1
            . exact .inl (List.mem_append_right _ h1)
            . exact .inr (xh qn h1)
     have hkeep:=(S0.rebase S).gr
     have hol2:=ja γ.arcs fs γ.arcs.length v
     have hgm:=hγ.many
     refine fu (iter_useN (arcs_it (hq:=h0) ok S.ok hkeep.keep hkeep.n hn sl (fun id hid=>(eY.1 hid).1) (by omega) hE y1 y2 y3) (fun _ _ h=>h) hJ (h:=h2) (F:=keys ((lb,.loop X)::(db,.dfr)::(bk,Ob.row [.int .i64 (n:Nat)] 1)::(b9,.row [ptrTo br] 1)::(br,.row [ptrTo bP,.slice (some ⟨bd,0,none⟩) γ.nodes γ.nodes,.slice (some ⟨ba,0,none⟩) γ.nodes γ.nodes,vO',.map (some bc)] 1)::(bc,.map es' c')::(ba,.row (ints aL) 1)::(bd,.row (dl ((xc γ.nodes).map fun u=>if u=v then n else D u)) 1)::(b8,.row [.slice none 0 0,.slice none 0 0,.slice none 0 0] 1)::cD dbs) [(vO',1,dl (O++[v]))]++F) g2.fr (fun b hb hlt=>?_)
      ⟨bV K v none,F,aL,R1,hH.gr g2,fun c hc=>⟨(hF c hc).1,fun hm=>?_⟩,lA,dj2.exm (fun a ha hs=>?_),rfl⟩) fun o rc h' y=>ir y ?_
     . rcases List.mem_append.1 hb with hb'|hb'
       . have k2:=(R1.key_own hb').elim (fun h=>h) (fun h=>h.elim)
         rcases List.mem_cons.1 hb' with e|hb'
         . simp only []at e;omega
         . rcases List.mem_cons.1 hb' with e|hb'
           . simp only []at e;omega
           . have k1:=kS hb'
             rintro(h|h|h|h|h)
             . omega
             . omega
             . omega
             . have:=hcl b h;omega
             . omega
       . have k1:=lFS b hb'
         have k2:=(hF b hb').1
         rintro(h|h|h|h|h)
         . omega
         . omega
         . omega
         . have:=hcl b h;omega
         . omega
     . have k1:=lFS c hc
       have knh:=S.fr.n
       rcases List.mem_cons.1 hm with e|hm
       . simp only []at e;omega
       . rcases List.mem_cons.1 hm with e|hm
         . simp only []at e;omega
         . rcases S.key_own hm with h1|h1
           . omega
           . exact(hF c hc).2 h1
     . obtain⟨i,hi,e⟩:=seen_mem ha
       refine⟨i,?_,e⟩
       rw [xP]
       refine eY.2 ⟨hi,?_⟩
       have:=(seen_at (fs:=fs) (ft:=ft) hi).1
       rw [e]at this
       rw [this]at hs
       exact hs
     . rintro Fx ⟨K',Fh',aL',T,H',hF',lA',dj',rfl⟩
       clear hJ R1 y1 y2 y3 hH S' S
       rw [show(la γ.arcs ft (outs γ.arcs fs γ.arcs.length v)).length=(outs γ.arcs fs γ.arcs.length v).length by simp [la],List.drop_length]at dj'
       replace dj':=dj'.exm (ex':=fun _=>False) (fun a _ h=>by obtain⟨i,hi,_⟩:=h;cases hi)
       subst hX
       refine⟨_,T.get m0,xM,?_⟩
       have hF2: ∀c∈Fh',c≠lb:=fun c hc e=>(hF' c hc).2 (by rw [e];exact m0)
       have H2:=H'.mo ((Mo.refl (M:=(· =lb)) T.ok).put (.inr rfl) .dead) hF2
       replace T:=T.dead
       replace hF':=fun c hc=>And.intro (hF' c hc).1 (fun hm=>(hF' c hc).2 (xE _ hm))
       have S:=T.base
       show Run _ _ _ _ _ _ _ _
       simp only [BS,Nat.reduceLT,Nat.reduceEqDiff,if_false,Tryz.FFf5175,r11,S.ld (b:=bk) (o:=0) m1 rfl]
       refine ag ax S ?_;clear S;intro h bk2 S n_bk2
       simp only [BS,LB,Nat.reduceLT,Nat.reduceEqDiff,r11]
       refine az (aB S (i:=0) rfl ?_ ?_ ?_ ono) ?_
       . exact(by simp only [Tryz.FFf5175])
       . exact(by exact bO)
       . exact xj (lbt rfl)
       clear S;rintro h ⟨S,mo⟩;clear mo;simp only [LC,ah,lay,xo,xp,Nat.reduceAdd]at S
       simp only [BS,LB,Nat.reduceLT,Nat.reduceEqDiff,Tryz.FFf5175,r9,S.ld (b:=b9) (o:=0) m3 rfl,S.ld (b:=br) (o:=0) m4 rfl]
       have H3:=H2.mo S.fr (fun c hc hm=>(hF' c hc).2 hm)
       have lF3:=H2.lt T.ok
       have hF3: ∀c∈Fh',h0.n<=c/\c∉keys ([(bk2,Ob.row [.int .i64 (n:Nat)] 1),(b9,.row [ptrTo br] 1),(br,.row [ptrTo bP,.slice (some ⟨bd,0,none⟩) γ.nodes γ.nodes,.slice (some ⟨ba,0,none⟩) γ.nodes γ.nodes,vO',.map (some bc)] 1),(bc,.map es' c'),(ba,.row (ints aL') 1),(bd,.row (dl ((xc γ.nodes).map fun u=>if u=v then n else D u)) 1),(b8,.row [.slice none 0 0,.slice none 0 0,.slice none 0 0] 1)]++cD (db::dbs)) [(vO',1,dl (O++[v]))]:=fun c hc=>by
        refine⟨(hF' c hc).1,fun hm=>?_⟩
        have h1:=(hF' c hc).2
        have h2:=lF3 c hc
        simp [keys,cD]at hm
        rcases hm with h|h|h|h|h|h|h|h|h|h
        . omega
        all_goals exact h1 (by simp [keys,cD,h])
       replace S:=(T.rebase S).sub (L':=(bk2,Ob.row [.int .i64 (n:Nat)] 1)::(db,.dfr)::(b9,.row [ptrTo br] 1)::(br,.row [ptrTo bP,.slice (some ⟨bd,0,none⟩) γ.nodes γ.nodes,.slice (some ⟨ba,0,none⟩) γ.nodes γ.nodes,vO',.map (some bc)] 1)::(bc,.map es' c')::(ba,.row (ints aL') 1)::(bd,.row (dl ((xc γ.nodes).map fun u=>if u=v then n else D u)) 1)::(b8,.row [.slice none 0 0,.slice none 0 0,.slice none 0 0] 1)::cD dbs) (G':=[(vO',1,dl (O++[v]))]) (.cons_cons _ (.cons_cons _ (List.sublist_cons_self _ _))) (List.Sublist.refl _)
       replace S:=S.permL (L':=[(bk2,Ob.row [.int .i64 (n:Nat)] 1),(b9,.row [ptrTo br] 1),(br,.row [ptrTo bP,.slice (some ⟨bd,0,none⟩) γ.nodes γ.nodes,.slice (some ⟨ba,0,none⟩) γ.nodes γ.nodes,vO',.map (some bc)] 1),(bc,.map es' c'),(ba,.row (ints aL') 1),(bd,.row (dl ((xc γ.nodes).map fun u=>if u=v then n else D u)) 1),(b8,.row [.slice none 0 0,.slice none 0 0,.slice none 0 0] 1)]++cD (db::dbs)) (.cons _ (by
        show(List.append [_,_,_,_,_,_] ((db,Ob.dfr)::cD dbs)).Perm _
        exact List.perm_middle))
       clear T H' H2 hF'
       have T:=S.baseF Fh'
       refine step_ret (pC S.ok H3 (by omega)) ?_
       rintro rr h3 ⟨v3,k3,b3',rfl,f3,H4,hb1',hb2'⟩
       replace S:=S.rebaseF (fun c hc=>.inl (hF3 c hc).1) (T.stepF f3 (fun c hc=>⟨.inl (.inr hc),(hF3 c hc).2⟩))
       simp only [BS,LB,Nat.reduceLT,Nat.reduceEqDiff,r11]
       clear T
       have T:=S
       replace S:=S.base
       simp only [LC]at S
       refine az (aB S (i:=0) rfl ?_ ?_ ?_ ono) ?_
       . exact(by simp only [Tryz.FFf5175])
       . exact(by exact bO)
       . exact xj (lbt rfl)
       clear S;rintro h ⟨S,mo⟩;clear mo;simp only [LC,ah,lay,xo,xp,Nat.reduceAdd]at S
       simp only [BS,LB,Nat.reduceLT,Nat.reduceEqDiff]
       have H5:=H4.mo S.fr (fun c hc hm=>(hF3 c hc).2 hm)
       replace S:=T.rebase S
       subst hd
       have hlO:(O++[v]).length=O.length+1:=by simp
       have hlO2:=dj'.len
       refine ih (O++[v]) _ _ _ (by omega) ⟨db::dbs,_,K',Fh',es',c',_,aL',vO',bk2,v3,k3,b3',rfl,S,hF3,lA',MI',CF',dj',H5,hb1',hb2',?_⟩
       refine⟨by simp [aa,r0,ab],by simp [aa,r2,ab],by simp [aa,r3,ab],by simp [aa,r8,ab],by simp [aa,r9,ab],by simp [aa],by simp [aa,ab],by simp [aa]⟩
 . have e1:dl ((xc γ.nodes).map fun _=>FAR)=xB γ.nodes (.int .i64 72057594037927936):=by
    rw [jk,List.map_const',xz,List.map_replicate];rfl
   have e2:ints (xB γ.nodes (-1))=xB γ.nodes (.int .i64 (-1)):=by
    rw [tt,List.map_replicate]
   have S3:=S1.rebaseF (fun c hc=>.inl (hF1' c hc).1) (S2.rebase S)
   have nn:=S2.fr.n
   refine⟨[],fun _=>FAR,bV (fun _=>none) s (some 0),F1,[],0,fun _=>none,xB γ.nodes (-1),.slice none 0 0,bk,v,k,b,rfl,?_,?_,by simp,uq,fun u=>by simp,dj,H3,hb1,hb2,?_⟩
   . rw [e1,e2];exact S3
   . rw [e1,e2]
     intro c hc
     refine⟨(hF1' c hc).1,fun hm=>?_⟩
     have h1:=(hF1' c hc).2
     have h2:=lF1 c hc
     simp [keys,dw,cD]at hm h1
     omega
   . refine⟨by simp [aa,ab,aQ,bU],by simp [aa,ab,aQ,bU],by simp [aa,ab,aQ,bU],by simp [aa,ab,aQ,bU],by simp [aa,ab,aQ,bU],by simp [aa,ab,aQ,bU],by simp [aa,ab,aQ,bU],by simp [aa,ab,aQ,bU]⟩
open Tryz in
def Tryz.FFf6176:=aj a1<|aj s1<|aj z1<|aj n1<|aj u2<|aj a2<|aj s2<|aj z2<|aj i2<|aj u3<|aj a3<|aj s3<|aj z3<|aj i3<|aj a49<|aj s49<|aj z49<|aj i49<|aj n49<|aj p49<|aj ff49<|d49
open Tryz in
def Tryz.FFf690:=aj a1<|aj s1<|aj z1<|aj n1<|aj u2<|aj a2<|aj s2<|aj z2<|aj i2<|aj u3<|aj a3<|aj s3<|aj z3<|aj i3<|aj u25<|aj a25<|aj s25<|aj z25<|aj q25<|aj n25<|aj a28<|aj s28<|aj z28<|aj i28<|aj n28<|aj p28<|aj ff28<|aj d28<|aj u29<|aj a29<|aj s29<|aj z29<|aj q29<|aj i29<|aj n29<|aj u38<|aj a38<|aj s38<|aj z38<|aj q38<|aj n38<|aj a42<|aj s42<|aj z42<|aj n42<|aj u190<|aj a190<|aj s190<|aj z190<|aj q190<|aj n190<|aj a192<|aj s192<|aj z192<|aj i192<|aj n192<|aj p192<|aj ff192<|aj d192<|aj a219<|aj s219<|aj z219<|aj n219<|aj a246<|aj s246<|aj z246<|aj i246<|aj n246<|aj p246<|aj ff246<|d246
theorem toKey:KeyF xd 176 Arc.s:=by
 intro h0 a ok
 have S:=Si ok
 refine ac (n:=5) (rs:=[.tmp 2]) rfl Tryz.e176 rfl rfl rfl (lbt rfl) ?_
 simp only [BS,Nat.reduceLT,cl]
 refine ag (bR (by intro x e;cases e)) S ?_;clear S;intro h b S n_b;simp only [ah]at S
 simp only [BS,LB,ae,Nat.reduceLT,Nat.reduceEqDiff,Tryz.FFf6176,S.ld (b:=b) (o:=0) m0 rfl]
 exact S.gr
theorem toNext{γ:Gra}(hγ:Good γ){pn:Value}:NextF xd 159 γ pn Arc.t:=fun h nb ok hn v hv=>uB ok hn (by have:=hγ.many;omega) hv
theorem qM{h0:Hp}(ok:h0.t.Sized h0.n){γ:Gra}(hγ:Good γ){pn:Value}{nb:Nat}(hn:aY h0 nb pn γ){s:Nat}(hs:s<γ.nodes):
 Ret xd 90 [pn,.int .i64 s] h0 fun r h'=>Gr h0 h'/\TreeAt h' h0.n r (seen γ.arcs Arc.t Arc.s) s γ.nodes:=by
 have S:=Si ok
 refine ac (n:=10) (rs:=[.cell 4 246]) rfl Tryz.e90 rfl rfl rfl (lbt rfl) ?_
 simp only [BS,Tryz.FFf690]
 refine ag ax S ?_;clear S;intro h b4 S n_b4
 simp only [BS,LB,Nat.reduceLT,Nat.reduceEqDiff]
 have k0:=S.fr.n
 have lt4:=(S.row (b:=b4) m0).lt S.ok
 refine step_ret (flood_ok S.ok hγ (hn.gr S.gr) hs (toNext hγ) toKey (fun a ha=>(hγ.arcs a ha).1)) ?_;intro v h ⟨g,T⟩;replace S:=S.call g;clear g
 obtain⟨vD,vA,vO,D,aL,O,rfl,s1,s2,s3,t4,t5,t6,t7,t8⟩:=T
 have f1:=s1.fl
 have f2:=s2.fl
 have f3:=s3.fl
 have q1: ∀c,au vD c\/au vA c\/au vO c->c≠b4:=fun c hc e=>by have:=t6 c hc;omega
 simp only [BS,LB,Nat.reduceLT,Nat.reduceEqDiff]
 refine az (S.store (i:=0) rfl ye (by intro x e;cases e) rfl (by simp only [ah,yj,yp,f1.2.1,f2.2.1,f3.2.1,xq]) (lbt rfl) ono) ?_
 clear S;rintro h ⟨S,mo⟩
 simp only [LC,ah,lay,xo,xp,Nat.reduceAdd]at S
 simp only [BS,ae]
 refine(gH (by decide) (by simp only [aU,ab,Nat.reduceEqDiff,reduceIte];exact dH Tryz.a246 ye (S.lds (b:=b4) (o:=0) (n:=3) m0 (lbt rfl)))).2 (fj.2 ?_)
 exact⟨S.gr,vD,vA,vO,D,aL,O,rfl,s1.mo mo (fun c hc=>q1 c (.inl hc)),s2.mo mo (fun c hc=>q1 c (.inr (.inl hc))),s3.mo mo (fun c hc=>q1 c (.inr (.inr hc))),t4,t5,fun c hc=>xh k0 (t6 c hc),t7,t8⟩
open Tryz in
def Tryz.FFd1273:=aj a1<|aj s1<|aj z1<|aj n1<|aj u2<|aj a2<|aj s2<|aj z2<|i2
def wy(x:Int):Int:=min (max x 0) 72057594037927936
theorem vq{h0:Hp}(ok:h0.t.Sized h0.n){b1 b2:Nat}{x:Int}(e1:h0.load b1 0 1=some [.int .i64 0])(e2:h0.load b2 0 1=some [.int .i64 72057594037927936]):bA xd 273 [.int .i64 x,ptrTo b1,ptrTo b2] h0 (.int .i64 (wy x)):=by
 have S:=Si ok
 refine ac (n:=10) (rs:=[.tmp 4]) rfl Tryz.e273 rfl rfl rfl (lbt rfl) ?_
 simp only [BS,LB,ae,Nat.reduceLT,Nat.reduceEqDiff,Tryz.FFd1273,e1,e2]
 exact⟨rfl,S.gr⟩
theorem w7{h0:Hp}(ok:h0.t.Sized h0.n):Ret xd 262 [.int .i64 0,.int .i64 72057594037927936] h0 fun v h=>Gr h0 h/\ ∃b1 b2,v=.func (.func 273) #[] #[ptrTo b1,ptrTo b2]/\h.load b1 0 1=some [.int .i64 0]/\h.load b2 0 1=some [.int .i64 72057594037927936]:=by
 have S:=Si ok
 refine ac (n:=6) (rs:=[.tmp 4]) rfl Tryz.e262 rfl rfl rfl (lbt rfl) ?_
 simp only [BS,Nat.reduceLT]
 refine ag (bR (by intro x e;cases e)) S ?_;clear S;intro h b1 S n_b1;simp only [ah]at S
 simp only [BS,Nat.reduceLT,Nat.reduceEqDiff,if_false]
 refine ag (bR (by intro x e;cases e)) S ?_;clear S;intro h b2 S n_b2;simp only [ah]at S
 simp only [BS,LB,ae,Nat.reduceLT,Nat.reduceEqDiff]
 exact⟨S.gr,b1,b2,rfl,S.ld m1 rfl,S.ld m0 rfl⟩
theorem oN{h0:Hp}(ok:h0.t.Sized h0.n){x:Int}:bA xd 237 [.int .i64 x] h0 (.int .i64 (wy x)):=by
 have S:=Si ok
 refine ac (n:=6) (rs:=[.tmp 2]) rfl Tryz.e237 rfl rfl rfl (lbt rfl) ?_
 simp only [BS,LB]
 refine step_ret (w7 S.ok) ?_;intro v h ⟨g,b1,b2,e,e1,e2⟩;replace S:=S.call g;clear g
 subst e
 simp only [BS,LB,Nat.reduceLT,Nat.reduceEqDiff]
 refine aq (vq S.ok e1 e2) ?_;intro h g;replace S:=S.call g;clear g
 simp only [BS,LB,ae,Nat.reduceLT,Nat.reduceEqDiff]
 exact S.gr
theorem sc{h0:Hp}(ok:h0.t.Sized h0.n){x:Int}:bA xd 236 [.int .i64 x] h0 (.bool (decide (wy x<72057594037927936))):=by
 have S:=Si ok
 refine ac (n:=6) (rs:=[.tmp 2]) rfl Tryz.e236 rfl rfl rfl (lbt rfl) ?_
 simp only [BS,LB,Nat.reduceLT,Nat.reduceEqDiff]
 refine aq (oN S.ok) ?_;intro h g;replace S:=S.call g;clear g
 simp only [BS,LB,ae,Nat.reduceLT,Nat.reduceEqDiff]
 exact S.gr
theorem wy_bd(x:Int):0<=wy x/\wy x<=72057594037927936:=by unfold wy;omega
theorem wy_id{x:Int}(h0:0<=x)(h1:x<=72057594037927936):wy x=x:=by unfold wy;omega
end Go.Ab
end
section
namespace Go.Ab
def encV(w:Value):List Value:=[w]
theorem encV_len(w:Value):(encV w).length=1:=rfl
def jd(h:Hp)(m:Nat)(v:Value)(n:Nat)(R:Nat->List Int):Prop:=
 ∃ws:List Value,aE h 1 encV v ws/\ws.length=n/\(∀c,au v c->m<=c)/\ ∀i w,ws[i]? =some w->aE h 1 (encI .i64) w (R i)/\ ∀c,au w c->m<=c
theorem jd.mo{M:Nat->Prop}{h h':Hp}{m n:Nat}{v:Value}{R:Nat->List Int}(r:jd h m v n R)(g:Mo M h h')(hm: ∀b,M b->b<m):jd h' m v n R:=by
 obtain⟨ws,a,b,c,d⟩:=r
 exact⟨ws,a.mo g (fun x hx hM=>by have:=c x hx;have:=hm x hM;omega),b,c,fun i w hw=>⟨(d i w hw).1.mo g (fun x hx hM=>by have:=(d i w hw).2 x hx;have:=hm x hM;omega),(d i w hw).2⟩⟩
theorem jd.gr{h h':Hp}{m n:Nat}{v:Value}{R:Nat->List Int}(r:jd h m v n R)(g:Gr h h'):jd h' m v n R:=r.mo (M:=NoM) g.fr (fun _ h=>h.elim)
theorem jd.low{h:Hp}{m m' n:Nat}{v:Value}{R:Nat->List Int}(r:jd h m v n R)(hm:m'<=m):jd h m' v n R:=by
 obtain⟨ws,a,b,c,d⟩:=r
 exact⟨ws,a,b,fun x hx=>xh hm (c x hx),fun i w hw=>⟨(d i w hw).1,fun x hx=>xh hm ((d i w hw).2 x hx)⟩⟩
theorem jd.row{h:Hp}{m n:Nat}{v:Value}{R:Nat->List Int}(r:jd h m v n R){i:Nat}(hi:i<n): ∃w,(∃c o,jy (some 1) v (.int .i64 (i:Nat))=some (.pointer (some ⟨c,o,none⟩))/\h.load c o 1=some [w])/\aE h 1 (encI .i64) w (R i)/\ ∀c,au w c->m<=c:=by
 obtain⟨ws,a,b,c,d⟩:=r
 obtain⟨q,o,e1,e2⟩:=a.ix (kd:=.i64) encV_len (i:=i) (by omega)
 have hw:ws[i]? =some ws[i]:=xf (by omega)
 exact⟨ws[i],⟨q,o,e1,e2⟩,(d i _ hw).1,(d i _ hw).2⟩
def MayL(N:Nat)(l:List Int):Prop:=l.length<=16/\ ∀i,i<l.length->0<=l.getD i 0/\l.getD i 0<N/\l.getD i 0∉l.take i
theorem MayL.push{N:Nat}{l:List Int}(h:MayL N l)(hl:l.length<16){x:Int}(h0:0<=x)(hN:x<N)(hx:x∉l):MayL N (l++[x]):=by
 refine⟨by simp;omega,fun i hi=>?_⟩
 simp at hi
 by_cases e:i=l.length
 . subst e
   have e1:(l++[x]).getD l.length 0=x:=by simp [xe]
   rw [e1,List.take_left']
   exact⟨h0,hN,hx⟩
   rfl
 . have hil:i<l.length:=by omega
   have e1:(l++[x]).getD i 0=l.getD i 0:=by simp [xe,xu hil]
   rw [e1,List.take_append_of_le_length (by omega)]
   exact h.2 i hil
structure TabAt(h:Hp)(m:Nat)(p:Value)(N:Nat)(marks:List Int)(R Q:Nat->List Int):Prop where
 ex: ∃b vM vT vF,p=ptrTo b/\Row h b [.int .i64 N,vM,vT,vF] 1/\aE h 1 (encI .i64) vM marks/\jd h m vT marks.length R/\jd h m vF marks.length Q/\m<=b/\ ∀c,au vM c->m<=c
theorem TabAt.mo{M:Nat->Prop}{h h':Hp}{m N:Nat}{p:Value}{marks:List Int}{R Q:Nat->List Int}(t:TabAt h m p N marks R Q)(g:Mo M h h')(hm: ∀b,M b->b<m):TabAt h' m p N marks R Q:=by
 obtain⟨b,vM,vT,vF,e,h1,h2,h3,h4,h5,h6⟩:=t.ex
 exact⟨b,vM,vT,vF,e,g.has (o:=.row _ 1) h1 (fun h=>by have:=hm _ h;omega),h2.mo g (fun x hx hM=>by have:=h6 x hx;have:=hm x hM;omega),h3.mo g hm,h4.mo g hm,h5,h6⟩
theorem TabAt.gr{h h':Hp}{m N:Nat}{p:Value}{marks:List Int}{R Q:Nat->List Int}(t:TabAt h m p N marks R Q)(g:Gr h h'):TabAt h' m p N marks R Q:=t.mo (M:=NoM) g.fr (fun _ h=>h.elim)
theorem jd.lenq{h h':Hp}{m n:Nat}{v:Value}{R:Nat->List Int}{e:TypeId}(r:jd h' m v n R):jY (some (.slice e)) h v=some (.val (.int .i64 n),h):=by
 have⟨ws,a,b,_⟩:=r
 rw [<-b];exact a.lenq
end Go.Ab

end
section
namespace Go.Ab
open Go.Proofs
set_option maxRecDepth 10000
noncomputable instance mayDec(N:Nat)(l:List Int):Decidable (MayL N l):=Classical.propDecidable _
open Classical in
noncomputable def dOf(B:List Arc)(s v:Nat):Nat:=if h: ∃x,IsD B s v x then h.choose else 0
theorem dOf_is{B:List Arc}{s v x:Nat}(h:IsD B s v x):dOf B s v=x/\IsD B s v (dOf B s v):=by
 have he: ∃x,IsD B s v x:=⟨x,h⟩
 have e:dOf B s v=he.choose:=by unfold dOf;rw [dif_pos he]
 rw [e]
 exact⟨he.choose_spec.uniq h,he.choose_spec⟩
open Tryz in
def Tryz.FFd1a275:=aj a1<|aj s1<|aj z1<|aj n1<|aj u2<|aj a2<|aj s2<|aj z2<|aj i2<|aj u3<|aj a3<|aj s3<|aj z3<|aj i3<|aj u4<|aj a4<|aj s4<|aj z4<|aj n4<|aj u5<|aj a5<|aj s5<|aj z5<|aj i5<|aj u6<|aj a6<|aj s6<|aj z6<|aj i6<|aj u25<|aj a25<|aj s25<|aj z25<|aj q25<|aj n25<|aj a307<|aj s307<|aj z307<|n307
theorem wF{h0:Hp}(ok:h0.t.Sized h0.n){v:Value}{a b:Int}(hv:aE h0 1 (encI .i64) v [a,b]):bA xd 275 [.func (.func 237) #[] #[],v] h0 (.int .i64 (wy (wy (wy a)+wy b))):=by
 have S:=Si ok
 have b1:=wy_bd a
 have b2:=wy_bd b
 have b3:=wy_bd (wy a)
 have w1:ao .i64 1=1:=rfl
 have w2:ao .i64 2=2:=rfl
 have w3:ao .i64 (wy a)=wy a:=by rw [wrap64]<;>omega
 have e0:wy (wy a)=wy a:=wy_id b1.1 b1.2
 have w4:ao .i64 (wy a+wy b)=wy a+wy b:=by rw [wrap64]<;>omega
 refine ac (n:=22) (rs:=[.tmp 4]) rfl Tryz.e275 rfl rfl rfl (lbt rfl) ?_
 simp only [BS,LB,Nat.reduceLT,Nat.reduceEqDiff,Nat.reduceAdd,Int.cast_ofNat_Int,Tryz.FFd1a275,hv.lenq]
 rw [cq]
 obtain⟨c0,o0,i0,l0⟩:=hv.ix (kd:=.i64) (cu .i64) (i:=0) (by simp)
 replace i0:jy (some 1) v (.int .i64 0)=some (.pointer (some ⟨c0,o0,none⟩)):=i0
 replace l0:h0.load c0 o0 1=some [.int .i64 a]:=l0
 simp only [BS,LB,Nat.reduceLT,Nat.reduceEqDiff,Int.reduceLT,Tryz.FFd1a275,i0,l0]
 refine aq (oN S.ok) ?_;intro h g;replace S:=S.call g;clear g
 simp only [BS,LB,Nat.reduceLT,Nat.reduceEqDiff,w3,Int.zero_add]
 refine aq (oN S.ok) ?_;intro h g;replace S:=S.call g;clear g
 simp only [BS,LB,Nat.reduceLT,Nat.reduceEqDiff,w1,e0,Int.zero_add]
 rw [cq]
 obtain⟨c1,o1,i1,l1⟩:=(hv.gr S.gr).ix (kd:=.i64) (cu .i64) (i:=1) (by simp)
 replace i1:jy (some 1) v (.int .i64 1)=some (.pointer (some ⟨c1,o1,none⟩)):=i1
 replace l1:h.load c1 o1 1=some [.int .i64 b]:=l1
 simp only [BS,LB,Nat.reduceLT,Nat.reduceEqDiff,Int.reduceLT,Tryz.FFd1a275,i1,l1]
 refine aq (oN S.ok) ?_;intro h g;replace S:=S.call g;clear g
 simp only [BS,LB,Nat.reduceLT,Nat.reduceEqDiff,w4]
 refine aq (oN S.ok) ?_;intro h g;replace S:=S.call g;clear g
 simp only [BS,LB,Nat.reduceLT,Nat.reduceEqDiff,Int.reduceAdd,w2]
 rw [cq]
 simp only [BS,LB,ae,Nat.reduceLT,Nat.reduceEqDiff,Int.reduceLT]
 exact S.gr
theorem add_ok{h0:Hp}(ok:h0.t.Sized h0.n){a b:Int}:bA xd 268 [.int .i64 a,.int .i64 b] h0 (.int .i64 (wy (wy (wy a)+wy b))):=by
 have S:=Si ok
 refine ac (n:=9) (rs:=[.tmp 4]) rfl Tryz.e268 rfl rfl rfl (lbt rfl) ?_
 simp only [BS,LB,Nat.reduceLT,Nat.reduceEqDiff]
 refine ag (bW (by exact Tryz.u25) (by exact Tryz.e2E) (by decide) (by rfl)) S ?_;clear S;intro h bs S n_bs;simp only [LC,aP,bj,ah,Nat.reduceMul,Nat.reduceAdd,xG,xA,xI,xJ]at S
 simp only [BS,LB,Nat.reduceLT,Nat.reduceEqDiff]
 refine aq (wF S.ok (a:=a) (b:=b) (.inr ⟨bs,0,none,2,rfl,xn _,S.lds (b:=bs) (o:=0) (n:=2*1) m0 (lbt rfl)⟩)) ?_;intro h g;replace S:=S.call g;clear g
 simp only [BS,LB,ae,Nat.reduceLT,Nat.reduceEqDiff]
 exact S.gr
open Tryz in
def Tryz.FFfl328:=aj a1<|aj s1<|aj z1<|aj n1<|aj u2<|aj a2<|aj s2<|aj z2<|aj i2<|aj u3<|aj a3<|aj s3<|aj z3<|aj i3<|aj u4<|aj a4<|aj s4<|aj z4<|aj n4<|aj u30<|aj a30<|aj s30<|aj z30<|aj q30<|aj i30<|aj n30<|aj u38<|aj a38<|aj s38<|aj z38<|aj q38<|aj n38<|aj a117<|aj s117<|aj z117<|aj i117<|aj n117<|aj p117<|aj ff117<|d117
open Tryz in
def Tryz.FFfl3120:=aj a1<|aj s1<|aj z1<|aj n1<|aj u2<|aj a2<|aj s2<|aj z2<|aj i2<|aj u3<|aj a3<|aj s3<|aj z3<|aj i3<|aj u4<|aj a4<|aj s4<|aj z4<|aj n4<|aj a28<|aj s28<|aj z28<|aj i28<|aj n28<|aj p28<|aj ff28<|aj d28<|aj u29<|aj a29<|aj s29<|aj z29<|aj q29<|aj i29<|aj n29<|aj u30<|aj a30<|aj s30<|aj z30<|aj q30<|aj i30<|aj n30<|aj u38<|aj a38<|aj s38<|aj z38<|aj q38<|aj n38<|aj a49<|aj s49<|aj z49<|aj i49<|aj n49<|aj p49<|aj ff49<|aj d49<|aj a117<|aj s117<|aj z117<|aj i117<|aj n117<|aj p117<|aj ff117<|aj d117<|aj u190<|aj a190<|aj s190<|aj z190<|aj q190<|aj n190<|aj a192<|aj s192<|aj z192<|aj i192<|aj n192<|aj p192<|aj ff192<|d192
structure fh(h:Hp)(nb:Nat)(p:Value)(N:Nat)(m:List Int)(c:Nat->Nat):Prop where
 at0:hU h nb p m
 len:m.length=N
 val: ∀v,v<N->m.getD v 0=(c v:Int)
theorem fh.gr{h h':Hp}{nb N:Nat}{p:Value}{m:List Int}{c:Nat->Nat}(x:fh h nb p N m c)(g:Gr h h'):fh h' nb p N m c:=⟨x.at0.gr g,x.len,x.val⟩
theorem fh.keep{h h':Hp}{nb N:Nat}{p:Value}{m:List Int}{c:Nat->Nat}(ok:h.t.Sized h.n)(x:fh h nb p N m c)(g:dN h h'):fh h' nb p N m c:=by
 obtain⟨b,v,rfl,r,s,n1,n2⟩:=x.at0
 exact⟨⟨b,v,rfl,g.row ok r,s.keep ok g,n1,n2⟩,x.len,x.val⟩
theorem sk{h0:Hp}(ok:h0.t.Sized h0.n){nb N:Nat}{p:Value}{m:List Int}{c:Nat->Nat}(x:fh h0 nb p N m c){v:Nat}(hv:v<N):bA xd 28 [p,.int .i64 (v:Nat)] h0 (.int .i64 (c v:Nat)):=by
 have S:=Si ok
 obtain⟨b,vm,rfl,r,s,_,_⟩:=x.at0
 have l0:=r.load1 (o:=0) rfl
 have hl:=x.len
 have c1: ¬(v:Int)<0:=by omega
 have c2: ¬(m.length:Int)<=(v:Int):=by omega
 obtain⟨d,o,x0,y0⟩:=s.ix (kd:=.i64) (cu .i64) (i:=v) (by omega)
 have ev:m[v]'(by omega)=(c v:Int):=by
  rw [<-x.val v hv,xe,xf (by omega)];rfl
 rw [ev]at y0
 replace y0:h0.load d o 1=some [.int .i64 (c v:Nat)]:=y0
 refine ac (n:=27) (rs:=[.tmp 4]) rfl Tryz.e28 rfl rfl rfl (lbt rfl) ?_
 simp only [BS,LB,ae,Nat.reduceLT,Nat.reduceEqDiff,Tryz.FFfl328,c1,l0,s.lenq,c2,x0,y0]
 exact S.gr
theorem inside_ok{h0:Hp}(ok:h0.t.Sized h0.n){nb mb bp N:Nat}{p:Value}{γ:Gra}{m:List Int}{c:Nat->Nat}(hγ:Good γ)(hn:aY h0 nb (ptrTo bp) γ)(x:fh h0 mb p γ.nodes m c){k a:Nat}(ha:a<γ.arcs.length):
 bA xd 120 [ptrTo bp,p,.int .i64 (k:Nat),.int .i64 (a:Nat)] h0 (.bool (decide (c (γ.arcs.getD a default).s=k/\c (γ.arcs.getD a default).t=k))):=by
 have S:=Si ok
 have fp:Fl p:=by obtain⟨b,_,rfl,_⟩:=x.at0;exact dR
 have ga:γ.arcs[a]=γ.arcs.getD a default:=by simp [xe,ha]
 have hm:γ.arcs.getD a default∈γ.arcs:=by rw [<-ga];exact xi ha
 obtain⟨hs,ht,_⟩:=hγ.arcs _ hm
 refine ac (n:=34) (rs:=[.tmp 8]) rfl Tryz.e120 rfl rfl rfl (lbt rfl) ?_
 simp only [BS,LB,Nat.reduceLT,Nat.reduceEqDiff]
 refine step_ret (jm S.ok hn ha) ?_
 rintro rv h ⟨g4,rfl⟩
 replace S:=S.call g4
 rw [ga]
 generalize γ.arcs.getD a default=A at hs ht
 simp only [BS,LB,Nat.reduceLT,Nat.reduceEqDiff,Tryz.FFfl3120,cl]
 refine ag ax S ?_;clear S;intro h b9 S n_b9
 simp only [BS,LB,Nat.reduceLT,Nat.reduceEqDiff]
 refine az (S.store (i:=0) rfl ?_ ?_ rfl rfl ?_ ono) ?_
 . exact(by exact yi)
 . exact(by intro x e;cases e)
 . exact lbt rfl
 clear S;rintro h ⟨S,mo⟩;clear mo;simp only [LC,ah,lay,xo,xp,Nat.reduceAdd]at S
 simp only [BS,LB,Nat.reduceLT,Nat.reduceEqDiff,Tryz.FFfl3120,S.ld (b:=b9) (o:=0) m0 rfl]
 refine aq (sk S.ok (x.gr S.gr) hs) ?_
 intro h1 g1;replace S:=S.call g1
 by_cases c1:c A.s=k
 . have c1':(c A.s:Int)=(k:Int):=by omega
   simp only [BS,LB,Nat.reduceLT,Nat.reduceEqDiff,Tryz.FFfl3120,c1',S.ld (b:=b9) (o:=1) m0 rfl]
   refine aq (sk S.ok (x.gr S.gr) ht) ?_
   intro h2 g2;replace S:=S.call g2
   by_cases c2:c A.t=k
   . have c2':(c A.t:Int)=(k:Int):=by omega
     simp only [BS,LB,ae,Nat.reduceLT,Nat.reduceEqDiff,c2']
     exact⟨by rw [decide_eq_true ⟨c1,c2⟩],S.gr⟩
   . have c2': ¬(c A.t:Int)=(k:Int):=by omega
     simp only [BS,LB,ae,Nat.reduceLT,Nat.reduceEqDiff,c2']
     exact⟨by rw [decide_eq_false (fun h=>c2 h.2)],S.gr⟩
 . have c1': ¬(c A.s:Int)=(k:Int):=by omega
   simp only [BS,LB,ae,Nat.reduceLT,Nat.reduceEqDiff,c1']
   exact⟨by rw [decide_eq_false (fun h=>c1 h.1)],S.gr⟩
end Go.Ab
end
section
namespace Go.Ab
open Go.Proofs
set_option maxRecDepth 10000
open Tryz in
def Tryz.FFfl4238:=aj a1<|aj s1<|aj z1<|aj n1<|aj u2<|aj a2<|aj s2<|aj z2<|aj i2<|aj u3<|aj a3<|aj s3<|aj z3<|aj i3<|aj u4<|aj a4<|aj s4<|aj z4<|aj n4<|aj u5<|aj a5<|aj s5<|aj z5<|aj i5<|aj u6<|aj a6<|aj s6<|aj z6<|aj i6<|aj a7<|aj s7<|aj z7<|aj i7<|aj n7<|aj p7<|aj ff7<|aj d7<|aj u38<|aj a38<|aj s38<|aj z38<|aj q38<|aj n38<|aj a124<|aj s124<|aj z124<|n124
open Tryz in
def Tryz.FFfl4199:=aj a1<|aj s1<|aj z1<|aj n1<|aj u2<|aj a2<|aj s2<|aj z2<|aj i2<|aj u3<|aj a3<|aj s3<|aj z3<|aj i3<|aj u4<|aj a4<|aj s4<|aj z4<|aj n4<|aj a28<|aj s28<|aj z28<|aj i28<|aj n28<|aj p28<|aj ff28<|aj d28<|aj u29<|aj a29<|aj s29<|aj z29<|aj q29<|aj i29<|aj n29<|aj u30<|aj a30<|aj s30<|aj z30<|aj q30<|aj i30<|aj n30<|aj u38<|aj a38<|aj s38<|aj z38<|aj q38<|aj n38<|aj a49<|aj s49<|aj z49<|aj i49<|aj n49<|aj p49<|aj ff49<|aj d49<|aj a117<|aj s117<|aj z117<|aj i117<|aj n117<|aj p117<|aj ff117<|aj d117<|aj u190<|aj a190<|aj s190<|aj z190<|aj q190<|aj n190<|aj a192<|aj s192<|aj z192<|aj i192<|aj n192<|aj p192<|aj ff192<|d192
open Tryz in
def Tryz.FFfl4201:=aj a1<|aj s1<|aj z1<|aj n1<|aj u3<|aj a3<|aj s3<|aj z3<|aj i3<|aj u4<|aj a4<|aj s4<|aj z4<|aj n4<|aj a28<|aj s28<|aj z28<|aj i28<|aj n28<|aj p28<|aj ff28<|aj d28<|aj u29<|aj a29<|aj s29<|aj z29<|aj q29<|aj i29<|aj n29<|aj u30<|aj a30<|aj s30<|aj z30<|aj q30<|aj i30<|aj n30<|aj u38<|aj a38<|aj s38<|aj z38<|aj q38<|aj n38<|aj a117<|aj s117<|aj z117<|aj i117<|aj n117<|aj p117<|aj ff117<|aj d117<|aj a124<|aj s124<|aj z124<|aj n124<|aj u190<|aj a190<|aj s190<|aj z190<|aj q190<|aj n190<|aj a192<|aj s192<|aj z192<|aj i192<|aj n192<|aj p192<|aj ff192<|d192
theorem pairN{x:Option Tch}:gP none x=true:=by cases x<;>rfl
theorem dN.grk{hq h0 h:Hp}(k:dN hq h0)(n:hq.n<=h0.n)(g:Gr h0 h):dN hq h:=fun b hb=>(g.get b (xg hb n)).trans (k b hb)
def HoldP(E:Env)(hq:Hp)(g:FuncId)(post:List Value)(N:Nat)(f:Nat->Bool):Prop:= ∀h,h.t.Sized h.n->dN hq h->hq.n<=h.n-> ∀v,v<N->bA E g ([.int .i64 (v:Nat)]++post) h (.bool (f v))
theorem indexI_ok{hq h0:Hp}(ok0:h0.t.Sized h0.n)(kq:dN hq h0)(nq:hq.n<=h0.n){v:Value}{xs:List Nat}{N:Nat}{g:FuncId}{post:Array Value}{f:Nat->Bool}(hv:aE h0 1 cw v xs)(hl:xs.length<=1000)(hx: ∀x∈xs,x<N)(hf:HoldP xd hq g post.toList N f):
 Ret xd 238 [v,.func (.func g) #[] post] h0 fun r h'=>Gr h0 h'/\ ∃z:Int,r=.int .i64 z/\(0<=z↔xs.any f=true):=by
 have S:=Si ok0
 have fv:=hv.fl
 refine ac (n:=19) (rs:=[.tmp 4]) rfl Tryz.e238 rfl rfl rfl (lbt rfl) ?_
 simp only [BS,LB,Nat.reduceLT,Nat.reduceEqDiff,Tryz.FFfl4238,hv.lenq]
 refine aV (fun(i:Nat) ρ h=>i<=xs.length/\Gr h0 h/\(∀j,(hj:j<xs.length)->j<i->f xs[j]=false)/\ρ 0=v/\ρ 1=.func (.func g) #[] post/\ρ 7=.int .i64 (xs.length:Nat)/\ρ 8=.int .i64 i) (fun i=>xs.length-i) ?_ 0 _ _ ?_
 . clear S
   intro i ih ρ h ⟨hi,g1,hno,r0,r1,r7,r8⟩
   have w:ao .i64 ((i:Int)+1)=((i+1:Nat):Int):=by rw [wrap64]<;>omega
   by_cases hlt:i<xs.length
   . obtain⟨c,o,x0,y0⟩:=(hv.gr g1).ix (kd:=.i64) dU hlt
     replace y0:h.load c o 1=some [.int .i64 (xs[i]:Nat)]:=y0
     simp only [BS,LB,Nat.reduceLT,Nat.reduceEqDiff,Tryz.FFfl4238,r0,r1,r7,r8,aG,hlt,x0,y0]
     refine aq (hf _ g1.ok (kq.grk nq g1) (xh nq g1.n) xs[i] (hx _ (xi hlt))) ?_
     intro h2 g2
     cases hb:f xs[i]with
     | true=>
       simp only [BS,LB,ae,Nat.reduceLT,Nat.reduceEqDiff]
       refine⟨g1.trans g2,_,rfl,⟨fun _=>List.any_eq_true.2 ⟨_,xi hlt,hb⟩,fun _=>by omega⟩⟩
     | false=>
       simp only [BS,LB,Nat.reduceLT,Nat.reduceEqDiff,r8,w]
       refine ih (i+1) _ _ (by omega) ⟨by omega,g1.trans g2,fun j hj hji=>?_,by simp [aa,r0],by simp [aa,r1],by simp [aa,r7],by simp [aa]⟩
       by_cases e:j=i
       . subst e;exact hb
       . exact hno j hj (by omega)
   . simp only [BS,LB,ae,Nat.reduceLT,Nat.reduceEqDiff,r7,r8,aG,hlt]
     refine⟨g1,_,rfl,⟨fun h=>by omega,fun h=>?_⟩⟩
     obtain⟨x,hm,hb⟩:=List.any_eq_true.1 h
     obtain⟨j,hj,e⟩:=ym hm
     rw [<-e,hno j hj (by omega)]at hb
     cases hb
 . exact⟨xw _,Gr.refl ok0,fun j _ h=>by omega,by simp [aa,cm],by simp [aa,cm],by simp [aa],by simp [aa]⟩
theorem tR{hq h0:Hp}(ok0:h0.t.Sized h0.n)(kq:dN hq h0)(nq:hq.n<=h0.n){v:Value}{xs:List Nat}{N:Nat}{g:FuncId}{post:Array Value}{f:Nat->Bool}(hv:aE h0 1 cw v xs)(hl:xs.length<=1000)(hx: ∀x∈xs,x<N)(hf:HoldP xd hq g post.toList N f):
 bA xd 172 [v,.func (.func g) #[] post] h0 (.bool (xs.any f)):=by
 have S:=Si ok0
 have fv:=hv.fl
 refine ac (n:=9) (rs:=[.tmp 4]) rfl Tryz.e172 rfl rfl rfl (lbt rfl) ?_
 simp only [BS,LB,Nat.reduceLT,Nat.reduceEqDiff]
 refine step_ret (indexI_ok ok0 kq nq hv hl hx hf) ?_
 rintro r h ⟨g1,z,rfl,hz⟩
 cases hb:xs.any f with
 | true=>
   have c0:=hz.2 hb
   simp only [BS,LB,ae,Nat.reduceLT,Nat.reduceEqDiff,c0]
   exact g1
 | false=>
   have c0: ¬0<=z:=fun h=>by rw [hz.1 h]at hb;cases hb
   simp only [BS,LB,ae,Nat.reduceLT,Nat.reduceEqDiff,c0]
   exact g1
section
variable{hq:Hp}{γ:Gra}{nb mb bp k:Nat}{p:Value}{m:List Int}{c:Nat->Nat}
def beyB(γ:Gra)(c:Nat->Nat)(k a:Nat):Bool:=!decide (c (γ.arcs.getD a default).s=k)
theorem beyond_ok(okq:hq.t.Sized hq.n)(hγ:Good γ)(hn:aY hq nb (ptrTo bp) γ)(x:fh hq mb p γ.nodes m c){b1 b2 b3:Nat}(l1:hq.load b1 0 1=some [ptrTo bp])(l2:hq.load b2 0 1=some [p])(l3:hq.load b3 0 1=some [.int .i64 (k:Nat)]):
 HoldP xd hq 199 [ptrTo b1,ptrTo b2,ptrTo b3] γ.arcs.length (beyB γ c k):=by
 intro h ok g nq a ha
 have S:=Si ok
 have ga:γ.arcs[a]=γ.arcs.getD a default:=by simp [xe,ha]
 have hm:γ.arcs.getD a default∈γ.arcs:=by rw [<-ga];exact xi ha
 obtain⟨hs,ht,_⟩:=hγ.arcs _ hm
 refine ac (n:=24) (rs:=[.tmp 5]) rfl Tryz.e199 rfl rfl rfl (lbt rfl) ?_
 simp only [BS,LB,Nat.reduceLT,Nat.reduceEqDiff,Tryz.FFfl4199,g.load okq l1]
 refine step_ret (jm S.ok (hn.keep okq g) ha) ?_
 rintro rv h4 ⟨g4,rfl⟩
 replace S:=S.call g4
 unfold beyB
 rw [ga]
 generalize γ.arcs.getD a default=A at hs ht
 simp only [BS,LB,Nat.reduceLT,Nat.reduceEqDiff,Tryz.FFfl4199,cl]
 refine ag ax S ?_;clear S;intro h b6 S n_b6
 simp only [BS,LB,Nat.reduceLT,Nat.reduceEqDiff]
 refine az (S.store (i:=0) rfl ?_ ?_ rfl rfl ?_ ono) ?_
 . exact(by exact yi)
 . exact(by intro x e;cases e)
 . exact lbt rfl
 clear S;rintro h ⟨S,mo⟩;clear mo;simp only [LC,ah,lay,xo,xp,Nat.reduceAdd]at S
 have gg:=g.grk nq S.gr
 obtain⟨b,vm,rfl,r,s,_,_⟩:=(x.keep okq gg).at0
 have l0:=r.load1 (o:=0) rfl
 have hl:=x.len
 obtain⟨d,o,x0,y0⟩:=s.ix (kd:=.i64) (cu .i64) (i:=A.s) (by omega)
 have ev:m[A.s]'(by omega)=(c A.s:Int):=by
  rw [<-x.val A.s hs,xe,xf (by omega)];rfl
 rw [ev]at y0
 simp only [encI]at y0
 simp only [BS,LB,Nat.reduceLT,Nat.reduceEqDiff]
 refine aA (aI rfl) (q:=0) (ps:=[]) (by kernel_rfl) ?_
 by_cases c1:c A.s=k
 . have c1':(c A.s:Int)=(k:Int):=by omega
   simp only [BS,LB,cls,ae,Nat.reduceLT,Nat.reduceEqDiff,Nat.reduceAdd,Nat.reducePow,Nat.reduceDiv,Nat.reduceMod,Nat.reduceLeDiff,Tryz.FFfl4199,gg.load okq l2,gg.load okq l3,l0,x0,y0,c1',S.ld (b:=b6) (o:=0) m0 rfl]
   exact⟨by rw [decide_eq_true c1];rfl,S.gr⟩
 . have c1': ¬(c A.s:Int)=(k:Int):=by omega
   simp only [BS,LB,cls,ae,Nat.reduceLT,Nat.reduceEqDiff,Nat.reduceAdd,Nat.reducePow,Nat.reduceDiv,Nat.reduceMod,Nat.reduceLeDiff,Tryz.FFfl4199,gg.load okq l2,gg.load okq l3,l0,x0,y0,c1',S.ld (b:=b6) (o:=0) m0 rfl]
   exact⟨by rw [decide_eq_false c1];rfl,S.gr⟩
def jC(γ:Gra)(c:Nat->Nat)(k v:Nat):Bool:=decide (c v=k)&&(outs γ.arcs Arc.t γ.arcs.length v).any (beyB γ c k)
theorem uj{v:Nat}:jC γ c k v=true↔c v=k/\ ∃e∈γ.arcs,e.t=v/\c e.s≠k:=by
 unfold jC
 rw [Bool.and_eq_true,decide_eq_true_eq,List.any_eq_true]
 refine and_congr_right fun _=>?_
 constructor
 . rintro⟨a,ha,hb⟩
   obtain⟨h1,h2⟩:=eY.1 ha
   have hm:γ.arcs.getD a default∈γ.arcs:=by rw [xe,xf h1];exact xi h1
   refine⟨_,hm,h2,fun e=>?_⟩
   unfold beyB at hb
   rw [decide_eq_true e]at hb;cases hb
 . rintro⟨e,he,h1,h2⟩
   obtain⟨i,hi,ei⟩:=ym he
   have e':γ.arcs.getD i default=e:=by rw [xe,xf hi,ei];rfl
   refine⟨i,eY.2 ⟨hi,by rw [e'];exact h1⟩,?_⟩
   unfold beyB
   rw [e',decide_eq_false h2];rfl
theorem xb(okq:hq.t.Sized hq.n)(hγ:Good γ)(hn:aY hq nb (ptrTo bp) γ)(x:fh hq mb p γ.nodes m c){b1 b2 b3 b4:Nat}(l1:hq.load b1 0 1=some [p])(l2:hq.load b2 0 1=some [.int .i64 (k:Nat)])(l3:hq.load b3 0 1=some [ptrTo bp])(l4:hq.load b4 0 1=some [.func (.func 199) #[] #[ptrTo b3,ptrTo b1,ptrTo b2]]):
 HoldP xd hq 201 [ptrTo b1,ptrTo b2,ptrTo b3,ptrTo b4] γ.nodes (jC γ c k):=by
 intro h ok g nq v hv
 have S:=Si ok
 obtain⟨b,vm,rfl,r,s,_,_⟩:=(x.keep okq g).at0
 have l0:=r.load1 (o:=0) rfl
 have hl:=x.len
 obtain⟨d,o,x0,y0⟩:=s.ix (kd:=.i64) (cu .i64) (i:=v) (by omega)
 have ev:m[v]'(by omega)=(c v:Int):=by
  rw [<-x.val v hv,xe,xf (by omega)];rfl
 rw [ev]at y0
 replace y0:h.load d o 1=some [.int .i64 (c v:Nat)]:=y0
 have k1:=g.load okq l1
 have k2:=g.load okq l2
 have k3:=g.load okq l3
 have k4:=g.load okq l4
 have z1:=bI ok k1
 have z2:=bI ok k2
 have z3:=bI ok k3
 have z4:=bI ok k4
 have zb:=r.lt ok
 have zd:=bI ok y0
 unfold jC
 by_cases c1:c v=k
 . have c1':(c v:Int)=(k:Int):=by omega
   refine ac (n:=23) (rs:=[.tmp 6]) rfl Tryz.e201 rfl rfl rfl (lbt rfl) ?_
   simp only [BS,LB]
   refine aA (aI rfl) (q:=0) (ps:=[(12,13)]) (by kernel_rfl) ?_
   simp only [BS,LB,cls,Nat.reduceLT,Nat.reduceEqDiff,Nat.reduceAdd,Nat.reducePow,Nat.reduceDiv,Nat.reduceMod,Nat.reduceLeDiff,Tryz.FFfl4201,k1,k2,k3,l0,x0,y0,c1']
   refine dc (uB S.ok (hn.keep okq g) (by have:=hγ.many;omega) hv) ?_
   rintro vl h2 ⟨g2,sl,_⟩
   have u1:=aF g2 z1
   have u2:=aF g2 z2
   have u3:=aF g2 z3
   have u4:=aF g2 z4
   have ub:=aF g2 zb
   have ud:=aF g2 zd
   replace S:=S.call g2
   simp only [BS,LB,cls,Nat.reduceLT,Nat.reduceEqDiff,Nat.reduceAdd,Nat.reducePow,Nat.reduceDiv,Nat.reduceMod,Nat.reduceLeDiff,Tryz.FFfl4201,g2.load k4]
   refine dL (tR S.ok (g.grk nq g2) (xh nq g2.n) sl (by have:=hγ.many;have:=ja γ.arcs Arc.t γ.arcs.length v;omega) (fun a ha=>(eY.1 ha).1) (post:=#[ptrTo b3,ptrTo b1,ptrTo b2]) (beyond_ok okq hγ hn x l3 l1 l2)) ?_
   intro h3 g3
   have w1:=aF g3 (xg z1 g2.n)
   have w2:=aF g3 (xg z2 g2.n)
   have w3:=aF g3 (xg z3 g2.n)
   have w4:=aF g3 (xg z4 g2.n)
   have wb:=aF g3 (xg zb g2.n)
   have wd:=aF g3 (xg zd g2.n)
   replace S:=S.call g3
   simp only [BS,LB,cls,ae,Nat.reduceLT,Nat.reduceEqDiff,Nat.reduceAdd,Nat.reducePow,Nat.reduceDiv,Nat.reduceMod,Nat.reduceLeDiff]
   refine⟨by simp only [bH,bJ,aZ,bM,bn,ne_eq,not_false_eq_true,bT,cC,bE,bu,cg,dm,aU,Nat.reduceLT,Nat.reduceEqDiff,reduceIte,xq,ab,aQ,bU,bw u1,bw u2,bw u3,bw u4,bw ub,bw ud,aR u1,aR u2,aR u3,aR u4,aR ub,aR ud,bw w1,bw w2,bw w3,bw w4,bw wb,bw wd,aR w1,aR w2,aR w3,aR w4,aR wb,aR wd],?_⟩
   exact⟨by rw [decide_eq_true c1,Bool.true_and],S.gr⟩
 . have c1': ¬(c v:Int)=(k:Int):=by omega
   refine ac (n:=23) (rs:=[.tmp 6]) rfl Tryz.e201 rfl rfl rfl (lbt rfl) ?_
   simp only [BS,LB]
   refine aA (aI rfl) (q:=0) (ps:=[(12,13)]) (by kernel_rfl) ?_
   simp only [BS,LB,cls,ae,Nat.reduceLT,Nat.reduceEqDiff,Nat.reduceAdd,Nat.reducePow,Nat.reduceDiv,Nat.reduceMod,Nat.reduceLeDiff,Tryz.FFfl4201,k1,k2,l0,x0,y0,c1']
   refine⟨by simp only [bH,bJ,aZ,bM,bn,ne_eq,not_false_eq_true,bT,cC,bE,bu,cg,dm,aU,Nat.reduceLT,Nat.reduceEqDiff,reduceIte,xq,ab,aQ,bU,nX,pairN],?_⟩
   exact⟨by rw [decide_eq_false c1,Bool.false_and],S.gr⟩
end
end Go.Ab

end
section
namespace Go.Ab
open Go.Proofs
set_option maxRecDepth 10000
open Tryz in
def Tryz.FFfl5246:=aj a1<|aj s1<|aj z1<|aj n1<|aj u2<|aj a2<|aj s2<|aj z2<|aj i2<|aj u3<|aj a3<|aj s3<|aj z3<|aj i3<|aj u4<|aj a4<|aj s4<|aj z4<|aj n4<|aj u5<|aj a5<|aj s5<|aj z5<|aj i5<|aj u30<|aj a30<|aj s30<|aj z30<|aj q30<|aj i30<|aj n30<|aj u38<|aj a38<|aj s38<|aj z38<|aj q38<|aj n38<|aj a117<|aj s117<|aj z117<|aj i117<|aj n117<|aj p117<|aj ff117<|aj d117<|aj a124<|aj s124<|aj z124<|n124
open Tryz in
def Tryz.FFfl5121:=aj a1<|aj s1<|aj z1<|aj n1<|aj u2<|aj a2<|aj s2<|aj z2<|aj i2<|aj u3<|aj a3<|aj s3<|aj z3<|aj i3<|aj u4<|aj a4<|aj s4<|aj z4<|aj n4<|aj a28<|aj s28<|aj z28<|aj i28<|aj n28<|aj p28<|aj ff28<|aj d28<|aj u29<|aj a29<|aj s29<|aj z29<|aj q29<|aj i29<|aj n29<|aj u30<|aj a30<|aj s30<|aj z30<|aj q30<|aj i30<|aj n30<|aj u38<|aj a38<|aj s38<|aj z38<|aj q38<|aj n38<|aj a110<|aj s110<|aj z110<|aj n110<|aj a117<|aj s117<|aj z117<|aj i117<|aj n117<|aj p117<|aj ff117<|aj d117<|aj a124<|aj s124<|aj z124<|aj n124<|aj u190<|aj a190<|aj s190<|aj z190<|aj q190<|aj n190<|aj a192<|aj s192<|aj z192<|aj i192<|aj n192<|aj p192<|aj ff192<|d192
open Tryz in
def Tryz.FFfl5247:=aj a1<|aj s1<|aj z1<|aj n1<|aj u3<|aj a3<|aj s3<|aj z3<|aj i3<|aj u4<|aj a4<|aj s4<|aj z4<|aj n4<|aj a28<|aj s28<|aj z28<|aj i28<|aj n28<|aj p28<|aj ff28<|aj d28<|aj u29<|aj a29<|aj s29<|aj z29<|aj q29<|aj i29<|aj n29<|aj u190<|aj a190<|aj s190<|aj z190<|aj q190<|aj n190<|aj a192<|aj s192<|aj z192<|aj i192<|aj n192<|aj p192<|aj ff192<|d192
open Tryz in
def Tryz.FFfl5267:=aj a1<|aj s1<|aj z1<|aj n1<|aj u2<|aj a2<|aj s2<|aj z2<|aj i2<|aj u3<|aj a3<|aj s3<|aj z3<|aj i3<|aj u4<|aj a4<|aj s4<|aj z4<|aj n4<|aj u25<|aj a25<|aj s25<|aj z25<|aj q25<|aj n25<|aj a28<|aj s28<|aj z28<|aj i28<|aj n28<|aj p28<|aj ff28<|aj d28<|aj u29<|aj a29<|aj s29<|aj z29<|aj q29<|aj i29<|aj n29<|aj u38<|aj a38<|aj s38<|aj z38<|aj q38<|aj n38<|aj a49<|aj s49<|aj z49<|aj i49<|aj n49<|aj p49<|aj ff49<|aj d49<|aj u190<|aj a190<|aj s190<|aj z190<|aj q190<|aj n190<|aj a192<|aj s192<|aj z192<|aj i192<|aj n192<|aj p192<|aj ff192<|aj d192<|aj a246<|aj s246<|aj z246<|aj i246<|aj n246<|aj p246<|aj ff246<|d246
open Tryz in
def Tryz.FFfl5250:=aj a1<|aj s1<|aj z1<|aj n1<|aj u2<|aj a2<|aj s2<|aj z2<|aj i2<|aj u3<|aj a3<|aj s3<|aj z3<|aj i3<|aj u25<|aj a25<|aj s25<|aj z25<|aj q25<|aj n25<|aj a28<|aj s28<|aj z28<|aj i28<|aj n28<|aj p28<|aj ff28<|aj d28<|aj u29<|aj a29<|aj s29<|aj z29<|aj q29<|aj i29<|aj n29<|aj u38<|aj a38<|aj s38<|aj z38<|aj q38<|aj n38<|aj a124<|aj s124<|aj z124<|aj n124<|aj u190<|aj a190<|aj s190<|aj z190<|aj q190<|aj n190<|aj a192<|aj s192<|aj z192<|aj i192<|aj n192<|aj p192<|aj ff192<|aj d192<|aj a246<|aj s246<|aj z246<|aj i246<|aj n246<|aj p246<|aj ff246<|d246
theorem cnodes_ok{h0:Hp}(ok:h0.t.Sized h0.n){p ve:Value}(f1:Fl p)(f2:Fl ve):Ret xd 200 [p,ve] h0 fun v h'=>Gr h0 h'/\ ∃b1 b2,v=.func (.func 246) #[] #[ptrTo b1,ptrTo b2]/\h0.n<=b1/\h0.n<=b2/\h'.load b1 0 1=some [p]/\h'.load b2 0 1=some [ve]:=by
 have S:=Si ok
 refine ac (n:=6) (rs:=[.tmp 4]) rfl Tryz.e200 rfl rfl rfl (lbt rfl) ?_
 simp only [BS,Nat.reduceLT]
 refine ag (cG (by assumption)) S ?_;clear S;intro h b1 S n_b1
 simp only [BS,Nat.reduceLT,Nat.reduceEqDiff,if_false]
 refine ag (cG (by assumption)) S ?_;clear S;intro h b2 S n_b2
 simp only [BS,LB,ae,Nat.reduceLT,Nat.reduceEqDiff]
 exact⟨S.gr,b1,b2,rfl,n_b1,n_b2,S.ld m1 rfl,S.ld m0 rfl⟩
theorem cnodes_it {hq h0:Hp} (okq:hq.t.Sized hq.n) (ok0:h0.t.Sized h0.n) (kq:dN hq h0) (nq:hq.n<=h0.n) {mb N:Nat} {p:Value} {m:List Int} {c:Nat->Nat} (x:fh hq mb p N m c) (hN:N<=1000) {b1 b2:Nat} {g:FuncId} {post:Array Value} {f:Nat->Bool} (hf:HoldP xd hq g post.toList N f)
 (e1:h0.load b1 0 1=some [p]) (e2:h0.load b2 0 1=some [.func (.func g) #[] post]):
 lW xd 246 [] [ptrTo b1,ptrTo b2] h0 (fun c=>c=b1\/c=b2\/c<hq.n) (((xc N).filter f).map fun(v:Nat)=>[.int .i64 (v:Nat)]):=by
 intro lb J Z hz Y h F s hj
 have l1:=s.load ok0 e1 (.inl rfl)
 obtain⟨b,vm,rfl,r,sm,_,_⟩:=(x.keep okq (s.keep kq nq (fun c hc=>.inr (.inr hc)))).at0
 have l0:=r.load1 (o:=0) rfl
 have hl:=x.len
 have hlI:(m.length:Int)=(N:Int):=by omega
 refine enter (n:=25) (rs:=[]) rfl Tryz.e246 rfl rfl rfl (lbt rfl) ?_
 simp only [BS,LB,Nat.reduceLT,Nat.reduceEqDiff,Tryz.FFfl5246,l1,l0,sm.lenq,hlI]
 refine aV (fun(i:Nat) ρ h=>i<=N/\ ∃F,ItS h0 (fun c=>c=b1\/c=b2\/c<hq.n) h F/\J ((xc i).filter f).length h F/\ρ 0=.func (.yield lb) #[] #[]/\ρ 1=ptrTo b1/\ρ 2=ptrTo b2/\ρ 11=.int .i64 (N:Nat)/\ρ 12=.int .i64 i) (fun i=>N-i) ?_ 0 _ _ ?_
 . clear l1 s hj F r sm l0 h
   intro i ih ρ h ⟨hi,F,s,hj,r0,r1,r2,r11,r12⟩
   have w:ao .i64 ((i:Int)+1)=((i+1:Nat):Int):=by rw [wrap64]<;>omega
   by_cases hlt:i<N
   . have l2:=s.load ok0 e2 (.inr (.inl rfl))
     simp only [BS,LB,Nat.reduceLT,Nat.reduceEqDiff,Tryz.FFfl5246,r2,r11,r12,aG,hlt,l2]
     refine aq (hf _ s.ok (s.keep kq nq (fun c hc=>.inr (.inr hc))) (xh nq s.n) i hlt) ?_
     intro h2 g2
     cases hb:f i with
     | true=>
       have hx:(((xc N).filter f).map fun(v:Nat)=>[Value.int .i64 (v:Nat)])[((xc i).filter f).length]? =some [.int .i64 (i:Nat)]:=by
        rw [xk,oH hb _ hlt];rfl
       have ln:((xc (i+1)).filter f).length=((xc i).filter f).length+1:=by rw [gC,if_pos hb];simp
       simp only [BS,LB,Nat.reduceLT,Nat.reduceEqDiff,r0]
       refine dr Y (s.gr g2) (Y.gr _ _ _ _ hj g2) (i:=((xc i).filter f).length) hx ?_ ?_ ?_
       . intro h3 F3 a s3 _ _
         simp only [BS,LB,Nat.reduceLT,Nat.reduceEqDiff,r12,w]
         exact ih (i+1) _ _ (by omega) ⟨by omega,F3,s3,by rw [ln];exact a,by simp [aa,r0],by simp [aa,r1,ab],by simp [aa,r2,ab],by simp [aa,r11],by simp [aa]⟩
       . intro h3 a _
         simp only [BS,LB,Nat.reduceLT,Nat.reduceEqDiff]
         exact eQ rfl ⟨rfl,.inr (.inl ⟨_,rfl,a⟩)⟩
       . intro v h3 a
         exact absurd a (hz v h3)
     | false=>
       have ln:(xc (i+1)).filter f=(xc i).filter f:=by rw [gC,if_neg (by rw [hb];decide)];simp
       simp only [BS,LB,Nat.reduceLT,Nat.reduceEqDiff,r12,w]
       exact ih (i+1) _ _ (by omega) ⟨by omega,F,s.gr g2,by rw [ln];exact Y.gr _ _ _ _ hj g2,by simp [aa,r0],by simp [aa,r1,ab],by simp [aa,r2,ab],by simp [aa,r11],by simp [aa]⟩
   . simp only [BS,LB,Nat.reduceLT,r11,r12,aG,hlt]
     have:i=N:=by omega
     subst this
     exact cQ (c5 ⟨rfl,_,rfl,rfl,.inl ⟨_,F,rfl,by simpa using hj⟩⟩)
 . exact⟨xw _,F,s,hj,by simp [aa,cm],by simp [aa,cm,ab],by simp [aa,cm,ab],by simp [aa],by simp [aa]⟩
theorem border_ok{h0:Hp}(ok:h0.t.Sized h0.n){γ:Gra}{nb mb bp k:Nat}{p:Value}{m:List Int}{c:Nat->Nat}(hγ:Good γ)(hn:aY h0 nb (ptrTo bp) γ)(x:fh h0 mb p γ.nodes m c):
 Ret xd 121 [p,ptrTo bp,.int .i64 (k:Nat)] h0 fun r h'=>Gr h0 h'/\aE h' 1 cw r ((xc γ.nodes).filter (jC γ c k))/\ ∀c,au r c->h0.n<=c:=by
 have S:=Si ok
 have fp:Fl p:=by obtain⟨b,_,rfl,_⟩:=x.at0;exact dR
 obtain⟨bc,vm,rfl,r,s,_,_⟩:=x.at0
 have l0:=r.load1 (o:=0) rfl
 have hl:=x.len
 have n1:=hγ.n1
 have n2:=hγ.n2
 have hlI:(m.length:Int)=(γ.nodes:Int):=by omega
 obtain⟨dv,ov,sv,cv,ev⟩: ∃d o s c,vm=.slice (some ⟨d,o,s⟩) m.length c:=by
  rcases s with⟨_,e⟩|⟨d,o,s,c,e,_⟩
  . subst e;simp at hl;omega
  . exact⟨d,o,s,c,e⟩
 subst ev
 have zd0:dv<h0.n:=s.lt ok (b:=dv) rfl
 refine ac (n:=29) (rs:=[.tmp 6]) rfl Tryz.e121 rfl rfl rfl (lbt rfl) ?_
 simp only [BS,Nat.reduceLT]
 refine ag (cG (by exact dR)) S ?_;clear S;intro h b3 S n_b3
 simp only [BS,Nat.reduceLT,Nat.reduceEqDiff,if_false]
 refine ag (cG (by exact dR)) S ?_;clear S;intro h b4 S n_b4
 simp only [BS,Nat.reduceLT,Nat.reduceEqDiff,if_false]
 refine ag (cG (by exact bO)) S ?_;clear S;intro h b5 S n_b5
 have z3:=(S.row (b:=b3) m2).lt S.ok
 have z4:=(S.row (b:=b4) m1).lt S.ok
 have zc:=xg (r.lt ok) S.gr.n
 have zd:=xg zd0 S.gr.n
 have l0':=S.gr.load l0
 have s':=s.gr S.gr
 simp only [BS]
 refine aA (aI rfl) (q:=0) (ps:=[(8,13),(8,12),(8,9)]) (by kernel_rfl) ?_
 simp only [BS,LB,cls,Nat.reduceLT,Nat.reduceEqDiff,Nat.reduceAdd,Nat.reducePow,Nat.reduceDiv,Nat.reduceMod,Nat.reduceLeDiff,Tryz.FFfl5121,S.ld (b:=b3) (o:=0) m2 rfl,S.ld (b:=b4) (o:=0) m1 rfl]
 refine dL (cE S.ok (hn.gr S.gr)) ?_
 intro h1 g1
 have v3:=aF g1 z3
 have v4:=aF g1 z4
 have vc:=aF g1 zc
 have vd:=aF g1 zd
 have l0'':=g1.load l0'
 replace S:=S.call g1
 simp only [BS,LB,cls,Nat.reduceLT,Nat.reduceEqDiff,Nat.reduceAdd,Nat.reducePow,Nat.reduceDiv,Nat.reduceMod,Nat.reduceLeDiff,Tryz.FFfl5121,l0'',s'.lenq,hlI,S.ld (b:=b3) (o:=0) m2 rfl,S.ld (b:=b4) (o:=0) m1 rfl]
 refine⟨by simp only [bH,bJ,aZ,bM,bn,ne_eq,not_false_eq_true,bT,cC,bE,bu,cg,dm,aU,Nat.reduceLT,Nat.reduceEqDiff,reduceIte,xq,ab,sX,bw v3,bw v4,bw vc,aR v3,aR v4,aR vc,bw vd,aR vd],?_⟩
 refine ag ax S ?_;clear S;intro h b7 S n_b7
 simp only [BS,LB,Nat.reduceLT,Nat.reduceEqDiff]
 refine az (aB S (i:=0) rfl Tryz.s124 iG (xj (lbt rfl)) ono) ?_
 clear S;rintro h2 ⟨S,_⟩
 simp only [LC]at S
 simp only [BS,LB,Nat.reduceLT,Nat.reduceEqDiff,Tryz.FFfl5121,S.ld (b:=b3) (o:=0) m3 rfl]
 have gq:=S.gr
 have okq:=S.ok
 have l3:=S.ld (b:=b3) (o:=0) m3 rfl
 have l4:=S.ld (b:=b4) (o:=0) m2 rfl
 have l5:=S.ld (b:=b5) (o:=0) m1 rfl
 have l7:=S.ld (b:=b7) (o:=0) m0 rfl
 have hf:=xb okq hγ (hn.gr gq) (x.gr gq) l3 l5 l4 l7
 refine step_ret (cnodes_ok S.ok dR iG) ?_
 rintro v h4 ⟨g,b1,b2,rfl,n1,n2',y1,y2⟩
 have it:=cnodes_it okq g.ok g.keep g.n (x.gr gq) (by omega) (g:=201) (post:=#[ptrTo b3,ptrTo b5,ptrTo b4,ptrTo b7]) hf y1 y2
 replace S:=S.call g
 simp only [BS,LB,Nat.reduceLT,Nat.reduceEqDiff]
 refine step_ret (pK S.ok (g:=246) (post:=#[ptrTo b1,ptrTo b2]) (iter_w it) (fun _ h=>h.elim) (by have:=px (n:=γ.nodes) (f:=jC γ c k);omega)) ?_
 rintro r h5 ⟨f5,G5,d5⟩
 have g5:=f5.gr
 have k5:=S.fr.n
 replace S:=S.call g5
 simp only [BS,LB,ae,Nat.reduceLT,Nat.reduceEqDiff]
 exact⟨S.gr,G5.sl rfl dU (by decide),fun c hc=>by have:=d5 c hc;omega⟩
theorem vQ{h0:Hp}(ok:h0.t.Sized h0.n){γ:Gra}{nb bp b:Nat}(hn:aY h0 nb (ptrTo bp) γ)(hb:b<γ.nodes):bA xd 247 [ptrTo bp,.int .i64 (b:Nat)] h0 (.bool true):=by
 have S:=Si ok
 have c0:(0:Int)<=(b:Int):=by omega
 have c1:(b:Int)<(γ.nodes:Int):=by omega
 refine ac (n:=17) (rs:=[.tmp 4]) rfl Tryz.e247 rfl rfl rfl (lbt rfl) ?_
 simp only [BS,LB,Nat.reduceLT,Nat.reduceEqDiff,Tryz.FFfl5247,c0]
 refine aq (cE S.ok hn) ?_
 intro h1 g1
 simp only [BS,LB,ae,Nat.reduceLT,Nat.reduceEqDiff,c1]
 exact g1
noncomputable def fS(γ:Gra)(b a:Nat):Bool:=decide (dOf (seen γ.arcs Arc.t Arc.s) b (γ.arcs.getD a default).s<FAR/\dOf (seen γ.arcs Arc.t Arc.s) b (γ.arcs.getD a default).t<FAR/\dOf (seen γ.arcs Arc.t Arc.s) b (γ.arcs.getD a default).s=(γ.arcs.getD a default).w+dOf (seen γ.arcs Arc.t Arc.s) b (γ.arcs.getD a default).t)
def HoldA(E:Env)(hq:Hp)(x:Nat)(g:FuncId)(post:List Value)(N:Nat)(f:Nat->Bool):Prop:= ∀h,h.t.Sized h.n->(∀b,b<hq.n->b≠x->h.get b=hq.get b)->hq.n<=h.n-> ∀v,v<N->bA E g ([.int .i64 (v:Nat)]++post) h (.bool (f v))
theorem jh{h h':Hp}{b o n:Nat}{l:List Value}(e:h.load b o n=some l)(g:h'.get b=h.get b):h'.load b o n=some l:=by
 unfold Hp.load at e⊢
 rw [g];exact e
theorem sl_get{α:Type}{h h':Hp}{k:Nat}{enc:α->List Value}{v:Value}{xs:List α}(s:aE h k enc v xs)(g: ∀c,au v c->h'.get c=h.get c):aE h' k enc v xs:=by
 rcases s with s|⟨b,o,s,c,h1,h2,h3⟩
 . exact .inl s
 . exact .inr ⟨b,o,s,c,h1,h2,jh h3 (g b (by rw [h1];rfl))⟩
theorem tells1_ok{hn0 hq:Hp}(okn:hn0.t.Sized hn0.n)(okq:hq.t.Sized hq.n)(kn:dN hn0 hq)(nn:hn0.n<=hq.n){x:Nat}(hx:hn0.n<=x){γ:Gra}(hγ:Good γ){nb bp b b2 b5:Nat}(hn:aY hn0 nb (ptrTo bp) γ)(x2:b2≠x)(x5:b5≠x)(hD: ∀v,IsD (seen γ.arcs Arc.t Arc.s) b v (dOf (seen γ.arcs Arc.t Arc.s) b v)){vD vA vO:Value}(l2:hq.load b2 0 1=some [ptrTo bp])(l5:hq.load b5 0 1=some [vD])(sD:aE hq 1 cw vD ((xc γ.nodes).map (dOf (seen γ.arcs Arc.t Arc.s) b)))(xD: ∀c,au vD c->c≠x):
 HoldA xd hq x 267 [ptrTo b2,ptrTo b5] γ.arcs.length (fS γ b):=by
 intro h ok k nq a ha
 have kN:dN hn0 h:=fun c hc=>(k c (xg hc nn) (by omega)).trans (kn c hc)
 have nN:hn0.n<=h.n:=xh nn nq
 have e2:=jh l2 (k b2 (bI okq l2) x2)
 have e5:=jh l5 (k b5 (bI okq l5) x5)
 have sD0:aE h 1 cw vD _:=sl_get sD (fun c hc=>k c (sD.lt okq hc) (xD c hc))
 have S:=Si ok
 have ga:γ.arcs[a]=γ.arcs.getD a default:=by simp [xe,ha]
 have hm:γ.arcs.getD a default∈γ.arcs:=by rw [<-ga];exact xi ha
 obtain⟨hs,ht,hw⟩:=hγ.arcs _ hm
 unfold fS
 have ds:=hD (γ.arcs.getD a default).s
 have dt:=hD (γ.arcs.getD a default).t
 generalize hd:dOf (seen γ.arcs Arc.t Arc.s) b=d at ds dt sD0
 refine ac (n:=35) (rs:=[.tmp 4]) rfl Tryz.e267 rfl rfl rfl (lbt rfl) ?_
 simp only [BS,LB,Nat.reduceLT,Nat.reduceEqDiff,Tryz.FFfl5267,e2]
 refine step_ret (jm S.ok (hn.keep okn kN) ha) ?_
 rintro rv h4 ⟨g4,rfl⟩
 replace S:=S.call g4
 rw [ga]
 generalize γ.arcs.getD a default=A at hs ht hw ds dt
 simp only [BS,LB,Nat.reduceLT,Nat.reduceEqDiff,Tryz.FFfl5267,cl]
 refine ag ax S ?_;clear S;intro h b6 S n_b6
 simp only [BS,LB,Nat.reduceLT,Nat.reduceEqDiff]
 refine az (S.store (i:=0) rfl ?_ ?_ rfl rfl ?_ ono) ?_
 . exact(by exact yi)
 . exact(by intro x e;cases e)
 . exact lbt rfl
 clear S;rintro h ⟨S,mo⟩;clear mo;simp only [LC,ah,lay,xo,xp,Nat.reduceAdd]at S
 have sD':=sD0.gr S.gr
 have lD:((xc γ.nodes).map d).length=γ.nodes:=by simp
 obtain⟨c1,o1,x1,y1⟩:=sD'.ix (kd:=.i64) dU (i:=A.t) (by omega)
 obtain⟨c2,o2,x2,y2⟩:=sD'.ix (kd:=.i64) dU (i:=A.s) (by omega)
 simp only [List.getElem_map,List.getElem_range,cw]at y1 y2
 have k5:=S.gr.load e5
 have z6:=(S.row (b:=b6) m0).lt S.ok
 have z5:=bI S.ok k5
 have zc:=bI S.ok y1
 simp only [BS,LB,Nat.reduceLT,Nat.reduceEqDiff]
 refine aA (aI rfl) (q:=0) (ps:=[]) (by kernel_rfl) ?_
 simp only [BS,LB,cls,Nat.reduceLT,Nat.reduceEqDiff,Nat.reduceAdd,Nat.reducePow,Nat.reduceDiv,Nat.reduceMod,Nat.reduceLeDiff,Tryz.FFfl5267,k5,x1,y1,S.ld (b:=b6) (o:=1) m0 rfl,S.ld (b:=b6) (o:=2) m0 rfl]
 refine dL (add_ok S.ok) ?_
 intro h7 g7
 have v6:=aF g7 z6
 have v5:=aF g7 z5
 have vc:=aF g7 zc
 replace S:=S.call g7
 simp only [BS,LB,cls,Nat.reduceLT,Nat.reduceEqDiff,Nat.reduceAdd,Nat.reducePow,Nat.reduceDiv,Nat.reduceMod,Nat.reduceLeDiff]
 have far:=iP
 have b1:=ds.le
 have b2:=dt.le
 have hwy:wy (wy (wy (d A.t:Nat))+wy (A.w:Nat))=(if d A.t+A.w<FAR then((d A.t+A.w:Nat):Int)else(FAR:Int)):=by
  unfold wy
  repeat' split
  all_goals omega
 rw [hwy]
 have k5':=g7.load k5
 have y2':=g7.load y2
 by_cases hf:d A.t+A.w<FAR
 . rw [if_pos hf]
   have w1:wy ((d A.t+A.w:Nat):Int)<72057594037927936:=by unfold wy;omega
   have fc:decide (wy ((d A.t+A.w:Nat):Int)<72057594037927936)=true:=decide_eq_true w1
   refine aq (sc S.ok) ?_
   intro h8 g8;replace S:=S.call g8
   rw [fc]
   by_cases he:d A.s=A.w+d A.t
   . have he':((d A.t+A.w:Nat):Int)=(d A.s:Int):=by omega
     simp only [BS,LB,ae,Nat.reduceLT,Nat.reduceEqDiff,Tryz.FFfl5267,g8.load k5',x2,g8.load y2',he',S.ld (b:=b6) (o:=0) m0 rfl]
     exact⟨by rw [decide_eq_true ⟨by omega,by omega,he⟩],S.gr⟩
   . have he': ¬((d A.t+A.w:Nat):Int)=(d A.s:Int):=by omega
     simp only [BS,LB,ae,Nat.reduceLT,Nat.reduceEqDiff,Tryz.FFfl5267,g8.load k5',x2,g8.load y2',he',S.ld (b:=b6) (o:=0) m0 rfl]
     exact⟨by rw [decide_eq_false (fun h=>he h.2.2)],S.gr⟩
 . rw [if_neg hf]
   have fc:decide (wy (FAR:Int)<72057594037927936)=false:=decide_eq_false (by unfold wy;omega)
   refine aq (sc S.ok) ?_
   intro h8 g8;replace S:=S.call g8
   rw [fc]
   simp only [BS,LB,ae,Nat.reduceLT,Nat.reduceEqDiff]
   exact⟨by rw [decide_eq_false (fun h=>by omega)],S.gr⟩
theorem tells_ok{h0 hn0:Hp}(okn:hn0.t.Sized hn0.n)(ok:h0.t.Sized h0.n)(gn:Gr hn0 h0){x:Nat}(hx:hn0.n<=x)(hx2:x<h0.n){γ:Gra}(hγ:Good γ){nb bp b:Nat}(hn:aY hn0 nb (ptrTo bp) γ)(hb:b<γ.nodes):
 Ret xd 250 [ptrTo bp,.int .i64 (b:Nat)] h0 fun r h'=>Gr h0 h'/\ ∃b2 b5,r=.func (.func 267) #[] #[ptrTo b2,ptrTo b5]/\h0.n<=b2/\h0.n<=b5/\HoldA xd h' x 267 [ptrTo b2,ptrTo b5] γ.arcs.length (fS γ b):=by
 have S:=Si ok
 refine ac (n:=10) (rs:=[.tmp 4]) rfl Tryz.e250 rfl rfl rfl (lbt rfl) ?_
 simp only [BS,Nat.reduceLT]
 refine ag (bR (by intro x e;cases e)) S ?_;clear S;intro h b2 S n_b2;simp only [ah]at S
 simp only [BS,LB,Nat.reduceLT,Nat.reduceEqDiff,Tryz.FFfl5250,S.ld (b:=b2) (o:=0) m0 rfl]
 refine step_ret (qM S.ok hγ (hn.gr (gn.trans S.gr)) hb) ?_
 rintro r h1 ⟨g1,vD,vA,vO,D,aL,O,rfl,sD,sA,sO,_,hD,nD,_⟩
 have kb:=S.fr.n
 replace S:=S.call g1
 have y1:=sD.fl
 have y2:=sA.fl
 have y3:=sO.fl
 have eD:D=dOf (seen γ.arcs Arc.t Arc.s) b:=funext fun v=>((dOf_is (hD v)).1).symm
 have hD': ∀v,IsD (seen γ.arcs Arc.t Arc.s) b v (dOf (seen γ.arcs Arc.t Arc.s) b v):=fun v=>by rw [<-eD];exact hD v
 rw [eD]at sD
 simp only [BS,Tryz.FFfl5250]
 have R2:=S.row (b:=b2) m0
 have k2:=S.fr.n
 have g01:=S.gr
 have ok1:=S.ok
 clear S
 have S:=Si ok1
 refine ag ax S ?_;clear S;intro h b5 S n_b5
 simp only [BS,LB,Nat.reduceLT,Nat.reduceEqDiff]
 refine az (S.store (i:=0) rfl ye (by intro x e;cases e) rfl (by simp only [ah,yj,yp,y1.2.1,y2.2.1,y3.2.1,xq]) (lbt rfl) ono) ?_
 clear S;rintro h3 ⟨S,_⟩
 simp only [LC,ah,lay,xo,xp,Nat.reduceAdd]at S
 simp only [BS,LB,ae,Nat.reduceLT,Nat.reduceEqDiff]
 refine⟨g01.trans S.gr,b2,b5,rfl,n_b2,by omega,?_⟩
 have gA:=gn.trans (g01.trans S.gr)
 exact tells1_ok okn S.ok gA.keep gA.n hx hγ hn (by omega) (by omega) hD' (vA:=vA) (vO:=vO) ((R2.gr S.gr).load1 (o:=0) rfl) (S.ld (b:=b5) (o:=0) m0 rfl) (sD.gr S.gr) (fun c hc e=>by have:=nD c (.inl hc);omega)
open Tryz in
def Tryz.FFfl6266:=aj a1<|aj s1<|aj z1<|aj n1<|aj u2<|aj a2<|aj s2<|aj z2<|aj i2<|aj u3<|aj a3<|aj s3<|aj z3<|aj i3<|aj u4<|aj a4<|aj s4<|aj z4<|aj n4<|aj a124<|aj s124<|aj z124<|n124
open Tryz in
def Tryz.FFfl6248:=aj a1<|aj s1<|aj z1<|aj n1<|aj u2<|aj a2<|aj s2<|aj z2<|aj i2<|aj u3<|aj a3<|aj s3<|aj z3<|aj i3<|aj u4<|aj a4<|aj s4<|aj z4<|aj n4<|aj u9<|aj a9<|aj s9<|aj z9<|aj n9<|aj u43<|aj a43<|aj s43<|aj z43<|aj q43<|aj n43<|aj a110<|aj s110<|aj z110<|n110
open Tryz in
def Tryz.FFfl6202:=aj a1<|aj s1<|aj z1<|aj n1<|aj u2<|aj a2<|aj s2<|aj z2<|aj i2<|aj u3<|aj a3<|aj s3<|aj z3<|aj i3<|aj u4<|aj a4<|aj s4<|aj z4<|aj n4<|aj u5<|aj a5<|aj s5<|aj z5<|aj i5<|aj u6<|aj a6<|aj s6<|aj z6<|aj i6<|aj a7<|aj s7<|aj z7<|aj i7<|aj n7<|aj p7<|aj ff7<|aj d7<|aj a8<|aj s8<|aj z8<|aj i8<|aj n8<|aj p8<|aj ff8<|aj d8<|aj u9<|aj a9<|aj s9<|aj z9<|aj n9<|aj u10<|aj a10<|aj s10<|aj z10<|aj n10<|aj a28<|aj s28<|aj z28<|aj i28<|aj n28<|aj p28<|aj ff28<|aj d28<|aj u29<|aj a29<|aj s29<|aj z29<|aj q29<|aj i29<|aj n29<|aj u38<|aj a38<|aj s38<|aj z38<|aj q38<|aj n38<|aj u43<|aj a43<|aj s43<|aj z43<|aj q43<|aj n43<|aj a110<|aj s110<|aj z110<|aj n110<|aj a124<|aj s124<|aj z124<|aj n124<|aj u190<|aj a190<|aj s190<|aj z190<|aj q190<|aj n190<|aj a192<|aj s192<|aj z192<|aj i192<|aj n192<|aj p192<|aj ff192<|d192
theorem marked_ok{h0:Hp}(ok:h0.t.Sized h0.n){n:Nat}{ve:Value}(f2:Fl ve):Ret xd 249 [.int .i64 (n:Nat),ve] h0 fun v h'=>Gr h0 h'/\ ∃b1 b2,v=.func (.func 266) #[] #[ptrTo b1,ptrTo b2]/\h0.n<=b1/\h0.n<=b2/\h'.load b1 0 1=some [.int .i64 (n:Nat)]/\h'.load b2 0 1=some [ve]:=by
 have S:=Si ok
 refine ac (n:=6) (rs:=[.tmp 4]) rfl Tryz.e249 rfl rfl rfl (lbt rfl) ?_
 simp only [BS,Nat.reduceLT]
 refine ag (cG (by exact bO)) S ?_;clear S;intro h b1 S n_b1
 simp only [BS,Nat.reduceLT,Nat.reduceEqDiff,if_false]
 refine ag (cG (by assumption)) S ?_;clear S;intro h b2 S n_b2
 simp only [BS,LB,ae,Nat.reduceLT,Nat.reduceEqDiff]
 exact⟨S.gr,b1,b2,rfl,n_b1,n_b2,S.ld m1 rfl,S.ld m0 rfl⟩
theorem marked_it {hq h0:Hp} (okq:hq.t.Sized hq.n) (ok0:h0.t.Sized h0.n) (kq:dN hq h0) (nq:hq.n<=h0.n) {x:Nat} {N:Nat} (hN:N<=1000) {b1 b2:Nat} {g:FuncId} {post:Array Value} {f:Nat->Bool} (hf:HoldA xd hq x g post.toList N f)
 (e1:h0.load b1 0 1=some [.int .i64 (N:Nat)]) (e2:h0.load b2 0 1=some [.func (.func g) #[] post]):
 lW xd 266 [] [ptrTo b1,ptrTo b2] h0 (fun c=>c=b1\/c=b2\/(c<hq.n/\c≠x)) (((xc N).filter f).map fun(v:Nat)=>[.int .i64 (v:Nat)]):=by
 intro lb J Z hz Y h F s hj
 have l1:=s.load ok0 e1 (.inl rfl)
 refine enter (n:=19) (rs:=[]) rfl Tryz.e266 rfl rfl rfl (lbt rfl) ?_
 simp only [BS,LB,Nat.reduceLT,Tryz.FFfl6266,l1]
 refine aV (fun(i:Nat) ρ h=>i<=N/\ ∃F,ItS h0 (fun c=>c=b1\/c=b2\/(c<hq.n/\c≠x)) h F/\J ((xc i).filter f).length h F/\ρ 0=.func (.yield lb) #[] #[]/\ρ 1=ptrTo b1/\ρ 2=ptrTo b2/\ρ 5=.int .i64 (N:Nat)/\ρ 6=.int .i64 i) (fun i=>N-i) ?_ 0 _ _ ?_
 . clear l1 s hj F h
   intro i ih ρ h ⟨hi,F,s,hj,r0,r1,r2,r5,r6⟩
   have w:ao .i64 ((i:Int)+1)=((i+1:Nat):Int):=by rw [wrap64]<;>omega
   by_cases hlt:i<N
   . have l2:=s.load ok0 e2 (.inr (.inl rfl))
     simp only [BS,LB,Nat.reduceLT,Nat.reduceEqDiff,Tryz.FFfl6266,r2,r5,r6,aG,hlt,l2]
     refine aq (hf _ s.ok (fun c hc hx=>(s.data c (xg hc nq) (.inr (.inr ⟨hc,hx⟩))).trans (kq c hc)) (xh nq s.n) i hlt) ?_
     intro h2 g2
     cases hb:f i with
     | true=>
       have hx:(((xc N).filter f).map fun(v:Nat)=>[Value.int .i64 (v:Nat)])[((xc i).filter f).length]? =some [.int .i64 (i:Nat)]:=by
        rw [xk,oH hb _ hlt];rfl
       have ln:((xc (i+1)).filter f).length=((xc i).filter f).length+1:=by rw [gC,if_pos hb];simp
       simp only [BS,LB,Nat.reduceLT,Nat.reduceEqDiff,r0]
       refine dr Y (s.gr g2) (Y.gr _ _ _ _ hj g2) (i:=((xc i).filter f).length) hx ?_ ?_ ?_
       . intro h3 F3 a s3 _ _
         simp only [BS,LB,Nat.reduceLT,Nat.reduceEqDiff,r6,w]
         exact ih (i+1) _ _ (by omega) ⟨by omega,F3,s3,by rw [ln];exact a,by simp [aa,r0],by simp [aa,r1,ab],by simp [aa,r2,ab],by simp [aa,r5],by simp [aa]⟩
       . intro h3 a _
         simp only [BS,LB,Nat.reduceLT,Nat.reduceEqDiff]
         exact eQ rfl ⟨rfl,.inr (.inl ⟨_,rfl,a⟩)⟩
       . intro v h3 a
         exact absurd a (hz v h3)
     | false=>
       have ln:(xc (i+1)).filter f=(xc i).filter f:=by rw [gC,if_neg (by rw [hb];decide)];simp
       simp only [BS,LB,Nat.reduceLT,Nat.reduceEqDiff,r6,w]
       exact ih (i+1) _ _ (by omega) ⟨by omega,F,s.gr g2,by rw [ln];exact Y.gr _ _ _ _ hj g2,by simp [aa,r0],by simp [aa,r1,ab],by simp [aa,r2,ab],by simp [aa,r5],by simp [aa]⟩
   . simp only [BS,LB,Nat.reduceLT,r5,r6,aG,hlt]
     have:i=N:=by omega
     subst this
     exact cQ (c5 ⟨rfl,_,rfl,rfl,.inl ⟨_,F,rfl,by simpa using hj⟩⟩)
 . exact⟨xw _,F,s,hj,by simp [aa,cm],by simp [aa,cm,ab],by simp [aa,cm,ab],by simp [aa],by simp [aa]⟩
def dQ(n:Nat)(f:Nat->Bool):List Value:=(xc n).map fun j=>.bool (f j)
theorem bolC_len{n:Nat}{f:Nat->Bool}:(dQ n f).length=n:=by simp [dQ]
theorem bolC_at{n j:Nat}{f:Nat->Bool}(h:j<n):(dQ n f)[j]? =some (.bool (f j)):=gZ (F:=fun j=>Value.bool (f j)) h
theorem bolC_set{n j:Nat}{f:Nat->Bool}:(dQ n f).set j (.bool true)=dQ n (fun u=>decide (u=j)||f u):=by
 have:=gw (N:=n) (k:=j) (F:=fun j=>Value.bool (f j)) (F':=fun u=>Value.bool (decide (u=j)||f u)) (fun i _ hi=>by simp [hi])
 unfold dQ
 rw [<-this];simp
theorem kU{n:Nat}{f g:Nat->Bool}(h: ∀j,j<n->f j=g j):dQ n f=dQ n g:=by
 unfold dQ
 refine List.map_congr_left fun j hj=>?_
 rw [h j (List.mem_range.1 hj)]
theorem putB_ok{h0:Hp}(ok:h0.t.Sized h0.n){bl n:Nat}{f0:Nat->Bool}(R:Row h0 bl (dQ n f0) 1){g:FuncId}{post:Array Value}{D:Nat->Prop}{xs:List Nat}(it:lW xd g [] post.toList h0 D (xs.map fun(v:Nat)=>[.int .i64 (v:Nat)]))(hD: ¬D bl)(hxs: ∀x∈xs,x<n)(hl:xs.length<=1000):
 Ret xd 248 [.slice (some ⟨bl,0,none⟩) n n,.func (.func g) #[] post,.bool true] h0 fun r h'=>Mo (· =bl) h0 h'/\r=.slice (some ⟨bl,0,none⟩) n n/\Row h' bl (dQ n (fun u=>decide (u∈xs)||f0 u)) 1:=by
 have S:=St.init1 ok (o:=.row (dQ n f0) 1) R
 have zl:=R.lt ok
 refine ac (n:=15) (rs:=[.tmp 6]) rfl Tryz.e248 rfl rfl rfl (lbt rfl) ?_
 simp only [BS,Nat.reduceLT]
 refine ag (cG (by exact cy)) S ?_;clear S;intro h b3 S n_b3
 simp only [BS,Nat.reduceLT,Nat.reduceEqDiff,if_false]
 refine ag (cG (by exact mL)) S ?_;clear S;intro h b5 S n_b5
 simp only [BS,Nat.reduceLT,Nat.reduceEqDiff,if_false]
 have e0:dQ n f0=dQ n (fun u=>decide (u∈xs.take 0)||f0 u):=kU fun j _=>by simp
 refine iC S (g:=g) (a:=#[]) (b:=post) (by simp [cg,aa,ab]) rfl rfl ?_
 intro h2 db lb S' hdb hlb g2
 obtain⟨X,hX,S'⟩: ∃X:eF,X=_/\St (· =bl) h0 h2 [(lb,.loop X),(db,.dfr),(b5,.row [.bool true] 1),(b3,.row [.slice (some ⟨bl,0,none⟩) n n] 1),(bl,.row (dQ n f0) 1)] []:=⟨_,rfl,S'⟩
 have hJ:Yld xd lb (fun k h' F=>St (· =bl) h0 h' [(lb,.loop X),(db,.dfr),(b5,.row [.bool true] 1),(b3,.row [.slice (some ⟨bl,0,none⟩) n n] 1),(bl,.row (dQ n (fun u=>decide (u∈xs.take k)||f0 u)) 1)] []/\k<=xs.length/\F=[lb,db,b5,b3,bl]) (fun _ _=>False) (xs.map fun(v:Nat)=>[.int .i64 (v:Nat)]):=by
  refine⟨?_,?_,fun _ _ h=>h.elim,?_⟩
  . rintro i h F ⟨S,_,rfl⟩;exact⟨S.ok,fun b hb=>S.key_lt (by simpa [keys]using hb)⟩
  . rintro i h F h' ⟨S,a,rfl⟩ gg;exact⟨S.call gg,a,rfl⟩
  . rintro i x hR F hx ⟨S,a,rfl⟩
    have hil:i<xs.length:=by
     have:=(List.getElem?_eq_some_iff.1 hx).1
     simpa using this
    rw [xk,xf hil]at hx
    cases hx
    have hxn:=hxs _ (xi hil)
    have tk:dQ n (fun u=>decide (u∈xs.take (i+1))||f0 u)=(dQ n (fun u=>decide (u∈xs.take i)||f0 u)).set xs[i] (.bool true):=by
     rw [bolC_set]
     refine kU fun j _=>?_
     rw [xm hil]
     simp only [xN,List.mem_singleton]
     by_cases e1:j=xs[i]<;>by_cases e2:j∈xs.take i<;>simp [e1,e2]
    rw [tk]
    generalize xs[i]=x at hxn
    subst hX
    refine iB (S.get m0) (by rw [Tryz.e248];rfl) rfl ?_
    have S0:=S
    replace S:=S.base
    simp only [BS,LB,Nat.reduceLT,Nat.reduceEqDiff]
    refine gJ S (i:=0) rfl rfl rfl rfl rfl ?_
    clear S;intro h S
    simp only [LC]at S
    simp only [BS,LB,Nat.reduceLT,Nat.reduceEqDiff,Tryz.FFfl6248,hxn,S.ld (b:=b3) (o:=0) m3 rfl,S.ld (b:=b5) (o:=0) m2 rfl]
    refine az (aB S (i:=4) rfl Tryz.s4 mL (by rw [bolC_len];exact hxn) ono) ?_
    clear S;rintro h ⟨S,_⟩
    simp only [LC]at S
    simp only [BS]
    refine ee S (i:=0) rfl ?_
    clear S;intro h S
    simp only [LC]at S
    refine .inl ⟨rfl,_,⟨S0.rebase S,by omega,rfl⟩,?_,fun c hc=>.inl hc⟩
    have:=S.fr
    simp only [keys,xU,yo,xQ,yd]at this
    exact this
 refine fu (it lb _ _ (fun _ _ h=>h) hJ h2 [lb,db,b5,b3,bl] ?_ ⟨by rw [<-e0];exact S',xw _,rfl⟩) fun o rc h' y=>ir y ?_
 . have kn:=S.fr.n
   refine⟨S'.ok,S'.fr.n,fun b hb hd=>S'.fr.get b hb (fun e=>hD (e▸hd)),fun b hb h=>?_,fun b hb=>S'.key_lt (by simpa [keys]using hb)⟩
   simp only [xK,xC,or_false]at hb
   rcases hb with rfl|rfl|rfl|rfl|rfl
   . omega
   . omega
   . omega
   . omega
   . exact hD h.2
 . rintro F ⟨T,_,rfl⟩
   rw [xx,xy]at T
   subst hX
   refine⟨_,T.get m0,xM,?_⟩
   replace T:=T.dead
   have S:=T
   show Run _ _ _ _ _ _ _ _
   simp only [BS,LB,Nat.reduceLT,Nat.reduceEqDiff,Tryz.FFfl6248,S.ld (b:=b3) (o:=0) m2 rfl]
   refine fF (jn [db] _ (L:=[(b5,_),(b3,_),(bl,_)]) T.base fun h4 S4=>?_)
   refine⟨rfl,(iH (by decide)).2 (fj.2 ?_)⟩
   have U:=T.rebase S4
   exact⟨U.fr,rfl,U.row m2⟩
theorem anyT_ok {h0:Hp} (ok:h0.t.Sized h0.n) {γ:Gra} (hγ:Good γ) {nb bp b:Nat} {vL:Value} {xs:List Nat} (hn:aY h0 nb (ptrTo bp) γ) (hb:b<γ.nodes) (sL:aE h0 1 cw vL xs) (hxs:xs=[b]):
 Ret xd 202 [ptrTo bp,vL] h0 fun r h'=>Gr h0 h'/\ ∃bl,r=.slice (some ⟨bl,0,none⟩) γ.arcs.length γ.arcs.length/\Row h' bl (dQ γ.arcs.length (fS γ b)) 1/\h0.n<=bl:=by
 have S:=Si ok
 have many:=hγ.many
 have fL:=sL.fl
 have hl:xs.length=1:=by rw [hxs];rfl
 refine ac (n:=32) (rs:=[.tmp 4]) rfl Tryz.e202 rfl rfl rfl (lbt rfl) ?_
 simp only [BS,LB,Nat.reduceLT,Nat.reduceEqDiff,Tryz.FFfl6202]
 refine aq (kX S.ok hn) ?_
 intro h1 g1;replace S:=S.call g1
 simp only [BS,LB,Nat.reduceLT,Nat.reduceEqDiff]
 have gA:=S.gr
 have okA:=S.ok
 clear S
 have S:=Si okA
 rename Hp=>hA
 refine ag (iw (by exact Tryz.u43) (by exact Tryz.e4E) (by omega) (by omega)) S ?_;clear S;intro h bl S n_bl
 have e0:aP [Value.bool false] γ.arcs.length=dQ γ.arcs.length (fun a=>decide (0=1)&&fS γ b a):=by
  rw [jS]
  unfold dQ
  simp [List.map_const']
 rw [Int.toNat_natCast,e0]at S
 simp only [BS,LB,Nat.reduceLT,Nat.reduceEqDiff,Tryz.FFfl6202,Int.toNat_natCast,sL.lenq]
 refine aV (fun(i:Nat) ρ h=>i<=1/\St NoM hA h [(bl,.row (dQ γ.arcs.length (fun a=>decide (i=1)&&fS γ b a)) 1)] []/\ρ 0=ptrTo bp/\ρ 5=.slice (some ⟨bl,0,none⟩) γ.arcs.length γ.arcs.length/\ρ 13=vL/\ρ 14=.int .i64 (xs.length:Nat)/\ρ 15=.int .i64 i) (fun i=>1-i) ?_ 0 _ _ ?_
 . clear S
   intro i ih ρ h ⟨hi,S,r0,r5,r13,r14,r15⟩
   have w:ao .i64 ((i:Int)+1)=((i+1:Nat):Int):=by rw [wrap64]<;>omega
   have gI:=gA.trans S.gr
   by_cases hlt:i<xs.length
   . have i0:i=0:=by omega
     obtain⟨c,o,x0,y0⟩:=(sL.gr gI).ix (kd:=.i64) dU hlt
     have eb:xs[i]=b:=by subst hxs;subst i0;rfl
     rw [eb]at y0
     replace y0:h.load c o 1=some [.int .i64 (b:Nat)]:=y0
     simp only [BS,LB,Nat.reduceLT,Nat.reduceEqDiff,Tryz.FFfl6202,r0,r13,r14,r15,aG,hlt,x0,y0]
     refine aq (vQ S.ok (hn.gr gI) hb) ?_
     intro h2 g2;replace S:=S.call g2
     have hS:=S.gr
     have klt:=(S.row (b:=bl) m0).lt S.ok
     simp only [BS,LB,Nat.reduceLT,Nat.reduceEqDiff,Tryz.FFfl6202,r0,r5]
     refine step_ret (tells_ok okA S.ok S.gr (x:=bl) n_bl klt hγ (hn.gr gA) hb) ?_
     rintro v h3 ⟨g3,b2,b5,rfl,n2,n5,hf⟩
     replace S:=S.call g3
     have okT:=S.ok
     simp only [BS,LB,Nat.reduceLT,Nat.reduceEqDiff]
     refine step_ret (marked_ok S.ok (n:=γ.arcs.length) iG) ?_
     rintro v h4 ⟨g4,b1,b3,rfl,n1,n3,y1,y3⟩
     have it:=marked_it okT g4.ok g4.keep g4.n (x:=bl) (by omega) (g:=267) (post:=#[ptrTo b2,ptrTo b5]) hf y1 y3
     have kg:=g3.n
     replace S:=S.call g4
     simp only [BS,LB,Nat.reduceLT,Nat.reduceEqDiff]
     refine step_ret (putB_ok S.ok (S.row (b:=bl) m0) (g:=266) (post:=#[ptrTo b1,ptrTo b3]) it (fun h=>?_) (fun x hx=>List.mem_range.1 (List.mem_filter.1 hx).1) (xh px (by omega))) ?_
     . rcases h with h|h|h
       . omega
       . omega
       . exact h.2 rfl
     . rintro v h5 ⟨f5,rfl,R5⟩
       have S5:=S.call1 (i:=0) (o':=.row _ 1) rfl f5 R5
       simp only [xH]at S5
       simp only [BS,LB,Nat.reduceLT,Nat.reduceEqDiff,r15,w]
       refine ih (i+1) _ _ (by omega) ⟨by omega,?_,by simp [aa,r0,ab],by simp [aa],by simp [aa,r13],by simp [aa,r14],by simp [aa]⟩
       have e:dQ γ.arcs.length (fun a=>decide (i+1=1)&&fS γ b a)=dQ γ.arcs.length (fun u=>decide (u∈(xc γ.arcs.length).filter (fS γ b))||(decide (i=1)&&fS γ b u)):=kU fun j hj=>by
        subst i0
        simp [yf,hj]
       rw [e]
       exact S5
   . have i1:i=1:=by omega
     simp only [BS,LB,ae,Nat.reduceLT,Nat.reduceEqDiff,r5,r14,r15,aG,hlt]
     refine⟨gI,bl,rfl,?_,by have:=gA.n;omega⟩
     have e:dQ γ.arcs.length (fS γ b)=dQ γ.arcs.length (fun a=>decide (i=1)&&fS γ b a):=kU fun j _=>by rw [decide_eq_true i1,Bool.true_and]
     rw [e]
     exact S.row m0
 . exact⟨xw _,S,by simp [aa,cm,ab],by simp [aa],by simp [aa],by simp [aa],by simp [aa]⟩
theorem arcsT_ok{h0:Hp}(ok:h0.t.Sized h0.n){γ:Gra}(hγ:Good γ){nb bp b:Nat}(hn:aY h0 nb (ptrTo bp) γ)(hb:b<γ.nodes):
 Ret xd 122 [ptrTo bp,.int .i64 (b:Nat)] h0 fun r h'=>Gr h0 h'/\ ∃bl,r=.slice (some ⟨bl,0,none⟩) γ.arcs.length γ.arcs.length/\Row h' bl (dQ γ.arcs.length (fS γ b)) 1/\h0.n<=bl:=by
 have S:=Si ok
 refine ac (n:=9) (rs:=[.tmp 4]) rfl Tryz.e122 rfl rfl rfl (lbt rfl) ?_
 simp only [BS,LB,Nat.reduceLT,Nat.reduceEqDiff]
 refine ag (bW (by exact xX) (by exact xY) (by decide) (by rfl)) S ?_;clear S;intro h bs S n_bs;simp only [LC,aP,bj,ah,Nat.reduceMul,Nat.reduceAdd,xG,xA,xI,xJ]at S
 simp only [BS,LB,Nat.reduceLT,Nat.reduceEqDiff]
 have sl:aE h 1 cw (.slice (some ⟨bs,0,none⟩) 1 1) [b]:=.inr ⟨bs,0,none,1,rfl,xn _,S.lds (b:=bs) (o:=0) (n:=1*1) m0 (lbt rfl)⟩
 have k0:=S.fr.n
 refine step_ret (anyT_ok S.ok hγ (hn.gr S.gr) hb sl rfl) ?_
 rintro r h2 ⟨g2,bl,rfl,R,nl⟩
 replace S:=S.call g2
 simp only [BS,LB,ae,Nat.reduceLT,Nat.reduceEqDiff]
 exact⟨S.gr,bl,rfl,R,by omega⟩
end Go.Ab
end
section
namespace Go.Ab
open Go.Proofs
set_option maxRecDepth 10000
open Tryz in
def Tryz.FFfl7118:=aj a1<|aj s1<|aj z1<|aj n1<|aj u2<|aj a2<|aj s2<|aj z2<|aj i2<|aj u3<|aj a3<|aj s3<|aj z3<|aj i3<|aj u4<|aj a4<|aj s4<|aj z4<|aj n4<|aj u5<|aj a5<|aj s5<|aj z5<|aj i5<|aj u6<|aj a6<|aj s6<|aj z6<|aj i6<|aj a7<|aj s7<|aj z7<|aj i7<|aj n7<|aj p7<|aj ff7<|aj d7<|aj a28<|aj s28<|aj z28<|aj i28<|aj n28<|aj p28<|aj ff28<|aj d28<|aj u29<|aj a29<|aj s29<|aj z29<|aj q29<|aj i29<|aj n29<|aj a124<|aj s124<|aj z124<|aj n124<|aj u190<|aj a190<|aj s190<|aj z190<|aj q190<|aj n190<|aj a192<|aj s192<|aj z192<|aj i192<|aj n192<|aj p192<|aj ff192<|d192
open Tryz in
def Tryz.FFfl7119:=aj a1<|aj s1<|aj z1<|aj n1<|aj u3<|aj a3<|aj s3<|aj z3<|aj i3<|aj u4<|aj a4<|aj s4<|aj z4<|aj n4<|aj a28<|aj s28<|aj z28<|aj i28<|aj n28<|aj p28<|aj ff28<|aj d28<|aj u29<|aj a29<|aj s29<|aj z29<|aj q29<|aj i29<|aj n29<|aj u30<|aj a30<|aj s30<|aj z30<|aj q30<|aj i30<|aj n30<|aj u38<|aj a38<|aj s38<|aj z38<|aj q38<|aj n38<|aj a117<|aj s117<|aj z117<|aj i117<|aj n117<|aj p117<|aj ff117<|aj d117<|aj u190<|aj a190<|aj s190<|aj z190<|aj q190<|aj n190<|aj a192<|aj s192<|aj z192<|aj i192<|aj n192<|aj p192<|aj ff192<|d192
open Tryz in
def Tryz.FFfl7123:=aj a1<|aj s1<|aj z1<|aj n1<|aj u3<|aj a3<|aj s3<|aj z3<|aj i3<|aj u4<|aj a4<|aj s4<|aj z4<|aj n4<|aj u43<|aj a43<|aj s43<|aj z43<|aj q43<|n43
open Tryz in
def Tryz.FFfl7117:=aj a1<|aj s1<|aj z1<|aj n1<|aj u2<|aj a2<|aj s2<|aj z2<|aj i2<|aj u3<|aj a3<|aj s3<|aj z3<|aj i3<|aj u4<|aj a4<|aj s4<|aj z4<|aj n4<|aj u5<|aj a5<|aj s5<|aj z5<|aj i5<|aj u6<|aj a6<|aj s6<|aj z6<|aj i6<|aj a7<|aj s7<|aj z7<|aj i7<|aj n7<|aj p7<|aj ff7<|aj d7<|aj a8<|aj s8<|aj z8<|aj i8<|aj n8<|aj p8<|aj ff8<|aj d8<|aj a28<|aj s28<|aj z28<|aj i28<|aj n28<|aj p28<|aj ff28<|aj d28<|aj u29<|aj a29<|aj s29<|aj z29<|aj q29<|aj i29<|aj n29<|aj u30<|aj a30<|aj s30<|aj z30<|aj q30<|aj i30<|aj n30<|aj u38<|aj a38<|aj s38<|aj z38<|aj q38<|aj n38<|aj u43<|aj a43<|aj s43<|aj z43<|aj q43<|aj n43<|aj a117<|aj s117<|aj z117<|aj i117<|aj n117<|aj p117<|aj ff117<|aj d117<|aj a124<|aj s124<|aj z124<|aj n124<|aj u190<|aj a190<|aj s190<|aj z190<|aj q190<|aj n190<|aj a192<|aj s192<|aj z192<|aj i192<|aj n192<|aj p192<|aj ff192<|aj d192<|aj a193<|aj s193<|aj z193<|n193
def Own(B:Nat->Prop)(hB h:Hp)(F:List Nat):Prop:=hB.n<=h.n/\ ∀b,B b->b<hB.n/\b∉F/\h.get b=hB.get b
theorem Own.gr{B:Nat->Prop}{hB h h':Hp}{F:List Nat}(o:Own B hB h F)(g:Gr h h'):Own B hB h' F:=
 ⟨xh o.1 g.n,fun b hb=>⟨(o.2 b hb).1,(o.2 b hb).2.1,(g.get b (xg (o.2 b hb).1 o.1)).trans (o.2 b hb).2.2⟩⟩
theorem Own.mo{B:Nat->Prop}{hB h h':Hp}{F F':List Nat}(o:Own B hB h F)(m:Mo (· ∈F) h h')(hF: ∀b∈F',b∈F\/h.n<=b):Own B hB h' F':=
 ⟨xh o.1 m.n,fun b hb=>by
  obtain⟨h1,h2,h3⟩:=o.2 b hb
  have hlt:=xg h1 o.1
  exact⟨h1,fun hm=>(hF b hm).elim h2 (fun h=>by omega),(m.get b hlt h2).trans h3⟩⟩
section
variable{γ:Gra}{nb mb bp k:Nat}{p:Value}{m:List Int}{c:Nat->Nat}
theorem won_ok{h0 hB:Hp}{D:Nat->Prop}(ok0:h0.t.Sized h0.n){lb:Nat}{J:Nat->Hp->List Nat->Prop}{Z:Out->Hp->Prop}{xs:List (List Value)}(hγ:Good γ)(hz: ∀v h,¬Z (.pan v) h)(Y:Yld xd lb J Z xs){B:Nat->Prop}{by' b3:Nat}(hby:B by')(ly:hB.load by' 0 1=some [.func (.yield lb) #[] #[]])(D3:D b3)(e3:h0.load b3 0 1=some [ptrTo bp])(hnet: ∀h F,ItS h0 D h F->aY h nb (ptrTo bp) γ)
 {g:FuncId} {post:Array Value} {f:Nat->Bool} (His: ∀h F,ItS h0 D h F->Own B hB h F-> ∀a,a<γ.arcs.length->bA xd g ([.int .i64 (a:Nat)]++post.toList) h (.bool (f a))) {i0:Nat} (hx: ∀a,a<γ.arcs.length->f a=true->xs[i0+((xc a).filter f).length]? =some [.int .i64 (a:Nat)]) {h:Hp} {F:List Nat} (s:ItS h0 D h F) (o:Own B hB h F) (hj:J i0 h F):
 Ret xd 118 [.func (.func g) #[] post,ptrTo b3,ptrTo by'] h fun v h'=>(v=.bool true/\ ∃F',ItS h0 D h' F'/\Own B hB h' F'/\J (i0+((xc γ.arcs.length).filter f).length) h' F')\/(v=.bool false/\Z (.ret (.bool false)) h'):=by
 have many:=hγ.many
 have l3:=s.load ok0 e3 D3
 refine ac (n:=21) (rs:=[.tmp 4]) rfl Tryz.e118 rfl rfl rfl (lbt rfl) ?_
 simp only [BS,LB,Nat.reduceLT,Nat.reduceEqDiff,Tryz.FFfl7118,l3]
 refine aq (kX s.ok (hnet _ _ s)) ?_
 intro h1 g1
 simp only [BS]
 refine aV (fun(i:Nat) ρ h=>i<=γ.arcs.length/\ ∃F,ItS h0 D h F/\Own B hB h F/\J (i0+((xc i).filter f).length) h F/\ρ 0=.func (.func g) #[] post/\ρ 2=ptrTo by'/\ρ 7=.int .i64 (γ.arcs.length:Nat)/\ρ 8=.int .i64 i) (fun i=>γ.arcs.length-i) ?_ 0 _ _ ?_
 . intro i ih ρ h ⟨hi,F,s,o,hj,r0,r2,r7,r8⟩
   have w:ao .i64 ((i:Int)+1)=((i+1:Nat):Int):=by rw [wrap64]<;>omega
   by_cases hlt:i<γ.arcs.length
   . simp only [BS,LB,Nat.reduceLT,Nat.reduceEqDiff,r0,r7,r8,aG,hlt]
     refine aq (His _ _ s o i hlt) ?_
     intro h2 g2
     have ly':=jh ly ((o.gr g2).2 by' hby).2.2
     cases hb:f i with
     | true=>
       have ln:((xc (i+1)).filter f).length=((xc i).filter f).length+1:=by rw [gC,if_pos hb];simp
       simp only [BS,LB,Nat.reduceLT,Nat.reduceEqDiff,Tryz.FFfl7118,r2,ly']
       refine dr Y (s.gr g2) (Y.gr _ _ _ _ hj g2) (i:=i0+((xc i).filter f).length) (hx i hlt hb) ?_ ?_ ?_
       . intro h3 F3 a s3 m3 hF3
         simp only [BS,LB,Nat.reduceLT,Nat.reduceEqDiff,r8,w]
         exact ih (i+1) _ _ (by omega) ⟨by omega,F3,s3,(o.gr g2).mo m3 hF3,by rw [ln];exact a,by simp [aa,r0],by simp [aa,r2,ab],by simp [aa,r7],by simp [aa]⟩
       . intro h3 a _
         simp only [BS,LB,ae,Nat.reduceLT,Nat.reduceEqDiff]
         exact .inr a
       . intro v h3 a
         exact absurd a (hz v h3)
     | false=>
       have ln:(xc (i+1)).filter f=(xc i).filter f:=by rw [gC,if_neg (by rw [hb];decide)];simp
       simp only [BS,LB,Nat.reduceLT,Nat.reduceEqDiff,r8,w]
       exact ih (i+1) _ _ (by omega) ⟨by omega,F,s.gr g2,o.gr g2,by rw [ln];exact Y.gr _ _ _ _ hj g2,by simp [aa,r0],by simp [aa,r2,ab],by simp [aa,r7],by simp [aa]⟩
   . have:i=γ.arcs.length:=by omega
     subst this
     simp only [BS,LB,ae,Nat.reduceLT,Nat.reduceEqDiff,r7,r8,aG,hlt]
     exact .inl ⟨F,s,o,hj⟩
 . exact⟨xw _,F,s.gr g1,o.gr g1,Y.gr _ _ _ _ hj g1,by simp [aa,cm],by simp [aa,cm,ab],by simp [aa],by simp [aa]⟩
theorem worth_ok{h0:Hp}(ok:h0.t.Sized h0.n)(fp:Fl p):Ret xd 57 [ptrTo bp,p,.int .i64 (k:Nat)] h0 fun v h'=>Gr h0 h'/\ ∃b3 b4 b5,v=.func (.func 117) #[] #[ptrTo b3,ptrTo b4,ptrTo b5]/\h0.n<=b3/\h0.n<=b4/\h0.n<=b5/\h'.load b3 0 1=some [ptrTo bp]/\h'.load b4 0 1=some [p]/\h'.load b5 0 1=some [.int .i64 (k:Nat)]:=by
 have S:=Si ok
 refine ac (n:=8) (rs:=[.tmp 6]) rfl Tryz.e57 rfl rfl rfl (lbt rfl) ?_
 simp only [BS,Nat.reduceLT]
 refine ag (cG (by exact dR)) S ?_;clear S;intro h b3 S n_b3
 simp only [BS,Nat.reduceLT,Nat.reduceEqDiff,if_false]
 refine ag (cG (by assumption)) S ?_;clear S;intro h b4 S n_b4
 simp only [BS,Nat.reduceLT,Nat.reduceEqDiff,if_false]
 refine ag (cG (by exact bO)) S ?_;clear S;intro h b5 S n_b5
 simp only [BS,LB,ae,Nat.reduceLT,Nat.reduceEqDiff]
 exact⟨S.gr,b3,b4,b5,rfl,n_b3,n_b4,n_b5,S.ld m2 rfl,S.ld m1 rfl,S.ld m0 rfl⟩
def insB(γ:Gra)(c:Nat->Nat)(k a:Nat):Bool:=decide (c (γ.arcs.getD a default).s=k/\c (γ.arcs.getD a default).t=k)
theorem worth2_ok{h:Hp}(ok:h.t.Sized h.n)(hγ:Good γ)(hn:aY h nb (ptrTo bp) γ)(x:fh h mb p γ.nodes m c){b3 b4 b5:Nat}(l3:h.load b3 0 1=some [ptrTo bp])(l4:h.load b4 0 1=some [p])(l5:h.load b5 0 1=some [.int .i64 (k:Nat)]){a:Nat}(ha:a<γ.arcs.length):
 bA xd 119 ([.int .i64 (a:Nat)]++[ptrTo b3,ptrTo b4,ptrTo b5]) h (.bool (insB γ c k a)):=by
 refine ac (n:=11) (rs:=[.tmp 5]) rfl Tryz.e119 rfl rfl rfl (lbt rfl) ?_
 simp only [BS,LB,Nat.reduceLT,Nat.reduceEqDiff,Tryz.FFfl7119,l3,l4,l5]
 refine aq (inside_ok (N:=0) ok hγ hn x ha) ?_
 intro h2 g2
 simp only [BS,LB,ae,Nat.reduceLT,Nat.reduceEqDiff]
 exact⟨rfl,g2⟩
theorem worth3_ok{h:Hp}(ok:h.t.Sized h.n){b8 bl n:Nat}{f:Nat->Bool}(l8:h.load b8 0 1=some [.slice (some ⟨bl,0,none⟩) n n])(R:Row h bl (dQ n f) 1){a:Nat}(ha:a<n):
 bA xd 123 ([.int .i64 (a:Nat)]++[ptrTo b8]) h (.bool (f a)):=by
 have S:=Si ok
 have lx:=R.load1 (bolC_at (f:=f) ha)
 have c0:(a:Int)<(n:Int):=by omega
 refine ac (n:=14) (rs:=[.tmp 3]) rfl Tryz.e123 rfl rfl rfl (lbt rfl) ?_
 simp only [BS,LB,ae,Nat.reduceLT,Nat.reduceEqDiff,Tryz.FFfl7123,l8,c0,ha,lx]
 exact S.gr
theorem flat_at{α β:Type}{f:α->List β}{l:List α}{j q:Nat}{x:β}(hj:j<l.length)(h:(f l[j])[q]? =some x):(l.flatMap f)[((l.take j).flatMap f).length+q]? =some x:=by
 have e:l=l.take j++l[j]::l.drop (j+1):=by rw [<-xW hj,List.take_append_drop]
 conv=>lhs;rw [e]
 rw [yn,List.flatMap_cons,xF (by simp)]
 have hq:=(List.getElem?_eq_some_iff.1 h).1
 have e2:(xo j l++l[j]::xp (j+1) l).take j=l.take j:=by rw [<-e]
 rw [e2,yb,xu hq]
 exact h
noncomputable def kM(γ:Gra)(b:Nat):List Nat:=(xc γ.arcs.length).filter (fS γ b)
noncomputable def cF(γ:Gra)(c:Nat->Nat)(k:Nat):List Nat:=(xc γ.arcs.length).filter (insB γ c k)++((xc γ.nodes).filter (jC γ c k)).flatMap (kM γ)
theorem worth1_it {hq h0:Hp} (okq:hq.t.Sized hq.n) (ok0:h0.t.Sized h0.n) (kq:dN hq h0) (nq:hq.n<=h0.n) (hγ:Good γ) (hn:aY hq nb (ptrTo bp) γ) (x:fh hq mb p γ.nodes m c) {b3 b4 b5:Nat} (e3:h0.load b3 0 1=some [ptrTo bp]) (e4:h0.load b4 0 1=some [p]) (e5:h0.load b5 0 1=some [.int .i64 (k:Nat)]):
 lW xd 117 [] [ptrTo b3,ptrTo b4,ptrTo b5] h0 (fun c=>c=b3\/c=b4\/c=b5\/c<hq.n) ((cF γ c k).map fun(a:Nat)=>[.int .i64 (a:Nat)]):=by
 intro lb J Z hz Y h F s hj
 have n2:=hγ.n2
 have fp:Fl p:=by obtain⟨b,_,rfl,_⟩:=x.at0;exact dR
 have kN: ∀h F,ItS h0 (fun c=>c=b3\/c=b4\/c=b5\/c<hq.n) h F->dN hq h:=fun h F s=>s.keep kq nq (fun c hc=>.inr (.inr (.inr hc)))
 have hnet: ∀h F,ItS h0 (fun c=>c=b3\/c=b4\/c=b5\/c<hq.n) h F->aY h nb (ptrTo bp) γ:=fun h F s=>hn.keep okq (kN h F s)
 have hcel: ∀h F,ItS h0 (fun c=>c=b3\/c=b4\/c=b5\/c<hq.n) h F->fh h mb p γ.nodes m c:=fun h F s=>x.keep okq (kN h F s)
 have hxI: ∀a,a<γ.arcs.length->insB γ c k a=true->((cF γ c k).map fun(a:Nat)=>[Value.int .i64 (a:Nat)])[0+((xc a).filter (insB γ c k)).length]? =some [.int .i64 (a:Nat)]:=fun a ha hb=>by
  have h1:=oH hb _ ha
  unfold cF
  rw [xA,xk,xu (List.getElem?_eq_some_iff.1 h1).1,h1];rfl
 have S:=Si s.ok
 refine enter (n:=31) (rs:=[]) rfl Tryz.e117 rfl rfl rfl (lbt rfl) ?_
 simp only [BS,LB,Nat.reduceLT]
 refine ag (cG (by exact iG)) S ?_;clear S;intro h by' S n_by'
 have s1:=s.gr S.gr
 have j1:=Y.gr _ _ _ _ hj S.gr
 have zy:=(S.row (b:=by') m0).lt S.ok
 have ly:=S.ld (b:=by') (o:=0) m0 rfl
 have o1:Own (· =by') _ _ F:=⟨xn _,fun b hb=>⟨by subst hb;exact zy,fun hm=>by subst hb;have:=s.lt _ hm;omega,rfl⟩⟩
 simp only [BS,LB,Nat.reduceLT,Nat.reduceEqDiff]
 refine step_ret (won_ok ok0 hγ hz Y (B:=(· =by')) rfl ly (.inl rfl) e3 hnet (g:=119) (post:=#[ptrTo b3,ptrTo b4,ptrTo b5]) (f:=insB γ c k) (fun h F s _ a ha=>worth2_ok s.ok hγ (hnet _ _ s) (hcel _ _ s) (s.load ok0 e3 (.inl rfl)) (s.load ok0 e4 (.inr (.inl rfl))) (s.load ok0 e5 (.inr (.inr (.inl rfl)))) ha) hxI s1 o1 j1) ?_
 rintro v h2 (⟨rfl,F2,s2,o2,j2⟩|⟨rfl,z2⟩)
 . simp only [BS,LB,Nat.reduceLT,Nat.reduceEqDiff,Tryz.FFfl7117,s2.load ok0 e3 (.inl rfl),s2.load ok0 e4 (.inr (.inl rfl)),s2.load ok0 e5 (.inr (.inr (.inl rfl)))]
   refine step_ret (border_ok s2.ok hγ (hnet _ _ s2) (hcel _ _ s2) (k:=k)) ?_
   rintro vB hB ⟨gB,sB,nB⟩
   have sA:=s2.gr gB
   have jA:=Y.gr _ _ _ _ j2 gB
   have oA:=o2.gr gB
   have lB:hB.load by' 0 1=some [.func (.yield lb) #[] #[]]:=jh ly (oA.2 by' rfl).2.2
   have zyB:by'<hB.n:=xg zy oA.1
   have oB:Own (fun c=>c=by'\/au vB c) hB hB F2:=⟨xn _,fun b hb=>⟨hb.elim (fun e=>by subst e;exact zyB) (fun h=>sB.lt sA.ok h),fun hm=>hb.elim (fun e=>(oA.2 b e).2.1 hm) (fun h=>by have:=nB b h;have:=s2.lt b hm;omega),rfl⟩⟩
   generalize hL:(xc γ.nodes).filter (jC γ c k)=L at sB
   have hLn: ∀b∈L,b<γ.nodes:=fun b hb=>by rw [<-hL]at hb;exact List.mem_range.1 (List.mem_filter.1 hb).1
   have hLl:L.length<=γ.nodes:=by rw [<-hL];exact px
   simp only [BS,LB,Nat.reduceLT,Nat.reduceEqDiff,Tryz.FFfl7117,sB.lenq]
   refine aV (fun(j:Nat) ρ h=>j<=L.length/\ ∃F,ItS h0 (fun c=>c=b3\/c=b4\/c=b5\/c<hq.n) h F/\Own (fun c=>c=by'\/au vB c) hB h F/\J (((xc γ.arcs.length).filter (insB γ c k)).length+((L.take j).flatMap (kM γ)).length) h F/\ρ 1=ptrTo b3/\ρ 5=.func (.func 118) #[] #[ptrTo b3,ptrTo by']/\ρ 17=vB/\ρ 18=.int .i64 (L.length:Nat)/\ρ 19=.int .i64 j) (fun j=>L.length-j) ?_ 0 _ _ ?_
   . clear S s1 j1 o1 s2 j2 o2 sA jA oA oB
     intro j ih ρ h ⟨hj',F,s,o,hj,r1,r5,r17,r18,r19⟩
     have w:ao .i64 ((j:Int)+1)=((j+1:Nat):Int):=by rw [wrap64]<;>omega
     by_cases hlt:j<L.length
     . have hb:=hLn _ (xi hlt)
       have sl:aE h 1 cw vB L:=sl_get sB (fun c hc=>(o.2 c (.inr hc)).2.2)
       obtain⟨d,oo,x0,y0⟩:=sl.ix (kd:=.i64) dU hlt
       have hxT: ∀a,a<γ.arcs.length->fS γ L[j] a=true->((cF γ c k).map fun(a:Nat)=>[Value.int .i64 (a:Nat)])[((xc γ.arcs.length).filter (insB γ c k)).length+((L.take j).flatMap (kM γ)).length+((xc a).filter (fS γ L[j])).length]? =some [.int .i64 (a:Nat)]:=fun a ha hb=>by
        have h1:(kM γ L[j])[((xc a).filter (fS γ L[j])).length]? =some a:=oH hb _ ha
        unfold cF
        rw [hL,xk,Nat.add_assoc,xF (by omega),yb,flat_at hlt h1];rfl
       have tk:((L.take (j+1)).flatMap (kM γ)).length=((L.take j).flatMap (kM γ)).length+((xc γ.arcs.length).filter (fS γ L[j])).length:=by
        rw [xm hlt,yn,xS]
        simp [kM]
       generalize L[j]=b at hb y0 hxT tk
       replace y0:h.load d oo 1=some [.int .i64 (b:Nat)]:=y0
       simp only [BS,LB,Nat.reduceLT,Nat.reduceEqDiff,Tryz.FFfl7117,r1,r17,r18,r19,aG,hlt,x0,y0,s.load ok0 e3 (.inl rfl)]
       refine step_ret (arcsT_ok s.ok hγ (hnet _ _ s) hb) ?_
       rintro r h4 ⟨g4,bl,rfl,R4,nl⟩
       have S:=Si g4.ok
       simp only [BS,Tryz.FFfl7117]
       refine ag ax S ?_;clear S;intro h b8 S n_b8
       simp only [BS,LB,Nat.reduceLT,Nat.reduceEqDiff]
       refine az (aB S (i:=0) rfl Tryz.s43 cy (xj (lbt rfl)) ono) ?_
       clear S;rintro h5 ⟨S,_⟩
       simp only [LC]at S
       have g5:=g4.trans S.gr
       have s5:=s.gr g5
       have j5:=Y.gr _ _ _ _ hj g5
       have o5:=o.gr g5
       have R8:=S.row (b:=b8) m0
       have Rl:=R4.gr S.gr
       have k4:=g4.n
       have oC:Own (fun c=>(c=by'\/au vB c)\/c=b8\/c=bl) h5 h5 F:=⟨xn _,fun b hb=>by
        rcases hb with hb|rfl|rfl
        . exact⟨xg (o5.2 b hb).1 o5.1,(o5.2 b hb).2.1,rfl⟩
        . exact⟨R8.lt S.ok,fun hm=>by have:=s.lt _ hm;omega,rfl⟩
        . exact⟨Rl.lt S.ok,fun hm=>by have:=s.lt _ hm;omega,rfl⟩⟩
       have l5:h5.load by' 0 1=some [.func (.yield lb) #[] #[]]:=jh lB (o5.2 by' (.inl rfl)).2.2
       simp only [BS,LB,Nat.reduceLT,Nat.reduceEqDiff,r5]
       refine step_ret (won_ok ok0 hγ hz Y (B:=fun c=>(c=by'\/au vB c)\/c=b8\/c=bl) (.inl (.inl rfl)) l5 (.inl rfl) e3 hnet (g:=123) (post:=#[ptrTo b8]) (f:=fS γ b) (fun h F s o a ha=>worth3_ok s.ok (jh (R8.load1 (o:=0) rfl) (o.2 b8 (.inr (.inl rfl))).2.2) (Row.of_get (o.2 bl (.inr (.inr rfl))).2.2 Rl) ha) hxT s5 oC j5) ?_
       rintro v h6 (⟨rfl,F6,s6,o6,j6⟩|⟨rfl,z6⟩)
       . simp only [BS,LB,Nat.reduceLT,Nat.reduceEqDiff,r19,w]
         refine ih (j+1) _ _ (by omega) ⟨by omega,F6,s6,⟨xh o5.1 o6.1,fun b hb=>⟨(o5.2 b hb).1,(o6.2 b (.inl hb)).2.1,(o6.2 b (.inl hb)).2.2.trans (o5.2 b hb).2.2⟩⟩,by rw [tk,<-Nat.add_assoc];exact j6,by simp [aa,r1,ab],by simp [aa,r5],by simp [aa,r17],by simp [aa,r18],by simp [aa]⟩
       . simp only [BS,LB,Nat.reduceLT,Nat.reduceEqDiff]
         exact eQ rfl ⟨rfl,.inr (.inl ⟨_,rfl,z6⟩)⟩
     . have:j=L.length:=by omega
       subst this
       simp only [BS,LB,Nat.reduceLT,r18,r19,aG,hlt]
       refine cQ (c5 ⟨rfl,_,rfl,rfl,.inl ⟨_,F,rfl,?_⟩⟩)
       rw [xy]at hj
       rw [xx]
       unfold cF
       rw [xS,hL]
       exact hj
   . exact⟨xw _,F2,sA,oB,by simpa using jA,by simp [aa,cm,ab],by simp [aa,ab],by simp [aa],by simp [aa],by simp [aa]⟩
 . simp only [BS,LB,Nat.reduceLT,Nat.reduceEqDiff]
   exact eQ rfl ⟨rfl,.inr (.inl ⟨_,rfl,z2⟩)⟩
end
end Go.Ab

end
section
namespace Go.Ab
open Go.Proofs
set_option maxRecDepth 10000
open Tryz in
def Tryz.FFfl814:=aj a1<|aj s1<|aj z1<|aj n1<|aj u2<|aj a2<|aj s2<|aj z2<|aj i2<|aj u3<|aj a3<|aj s3<|aj z3<|aj i3<|aj u4<|aj a4<|aj s4<|aj z4<|aj n4<|aj u5<|aj a5<|aj s5<|aj z5<|aj i5<|aj u6<|aj a6<|aj s6<|aj z6<|aj i6<|aj a7<|aj s7<|aj z7<|aj i7<|aj n7<|aj p7<|aj ff7<|aj d7<|aj a8<|aj s8<|aj z8<|aj i8<|aj n8<|aj p8<|aj ff8<|aj d8<|aj u9<|aj a9<|aj s9<|aj z9<|aj n9<|aj u10<|aj a10<|aj s10<|aj z10<|aj n10<|aj u11<|aj a11<|aj s11<|aj z11<|aj n11<|aj u22<|aj a22<|aj s22<|aj z22<|aj q22<|aj n22<|aj u26<|aj a26<|aj s26<|aj z26<|aj q26<|aj n26<|aj a28<|aj s28<|aj z28<|aj i28<|aj n28<|aj p28<|aj ff28<|aj d28<|aj u29<|aj a29<|aj s29<|aj z29<|aj q29<|aj i29<|aj n29<|aj u30<|aj a30<|aj s30<|aj z30<|aj q30<|aj i30<|aj n30<|aj u34<|aj a34<|aj s34<|aj z34<|aj q34<|aj i34<|aj n34<|aj u38<|aj a38<|aj s38<|aj z38<|aj q38<|aj n38<|aj a49<|aj s49<|aj z49<|aj i49<|aj n49<|aj p49<|aj ff49<|aj d49<|aj a110<|aj s110<|aj z110<|aj n110<|aj a115<|aj s115<|aj z115<|aj i115<|aj n115<|aj p115<|aj ff115<|aj d115<|aj a117<|aj s117<|aj z117<|aj i117<|aj n117<|aj p117<|aj ff117<|aj d117<|aj u190<|aj a190<|aj s190<|aj z190<|aj q190<|aj n190<|aj a192<|aj s192<|aj z192<|aj i192<|aj n192<|aj p192<|aj ff192<|d192
def OkB(γ:Gra)(c:Nat->Nat)(long k i:Nat)(B:Nat->Nat):Prop:= ∀k' a,a<γ.arcs.length->(fJ B long k' a=true↔(k'<k/\a∈cF γ c k')\/(k'=k/\a∈(cF γ c k).take i))
theorem OkB.zero{γ:Gra}{c:Nat->Nat}{long:Nat}:OkB γ c long 0 0 (fun _=>0):=fun k' a _=>by simp [fJ]
theorem OkB.next{γ:Gra}{c:Nat->Nat}{long k:Nat}{B:Nat->Nat}(o:OkB γ c long k (cF γ c k).length B):OkB γ c long (k+1) 0 B:=fun k' a ha=>by
 rw [o k' a ha,xy]
 simp only [List.take_zero,xC,and_false,or_false]
 constructor
 . rintro(⟨h1,h2⟩|⟨rfl,h2⟩)
   . exact⟨by omega,h2⟩
   . exact⟨by omega,h2⟩
 . rintro⟨h1,h2⟩
   by_cases e:k'=k
   . subst e;exact .inr ⟨rfl,h2⟩
   . exact .inl ⟨by omega,h2⟩
theorem OkB.set{γ:Gra}{c:Nat->Nat}{long k i:Nat}{B:Nat->Nat}(hl:long=(γ.arcs.length+7)/8)(o:OkB γ c long k i B)(hi:i<(cF γ c k).length)(hlt:(cF γ c k)[i]<γ.arcs.length):OkB γ c long k (i+1) (ck B (k*long+(cF γ c k)[i]/8) (setB (B (k*long+(cF γ c k)[i]/8)) ((cF γ c k)[i]%8))):=fun k' a ha=>by
 rw [bitB_set (by omega) (by omega),xm hi]
 by_cases e:k'=k/\a=(cF γ c k)[i]
 . rw [if_pos e]
   obtain⟨rfl,e⟩:=e
   subst e
   exact⟨fun _=>.inr ⟨rfl,List.mem_append.2 (.inr (List.mem_singleton.2 rfl))⟩,fun _=>rfl⟩
 . rw [if_neg e,o k' a ha]
   simp only [xN,List.mem_singleton]
   constructor
   . rintro(h|⟨h1,h2⟩)
     . exact .inl h
     . exact .inr ⟨h1,.inl h2⟩
   . rintro(h|⟨h1,h2|h2⟩)
     . exact .inl h
     . exact .inr ⟨h1,h2⟩
     . exact absurd ⟨h1,h2⟩ e
theorem worthL_lt{γ:Gra}{c:Nat->Nat}{k a:Nat}(h:a∈cF γ c k):a<γ.arcs.length:=by
 unfold cF at h
 rcases List.mem_append.1 h with h|h
 . exact List.mem_range.1 (List.mem_filter.1 h).1
 . obtain⟨b,_,h⟩:=List.mem_flatMap.1 h
   exact List.mem_range.1 (List.mem_filter.1 h).1
theorem perm_db{α:Type}{x a b d:α}{l:List α}:List.Perm (x::([a,b]++(d::l))) ([d,x,a,b]++l):=by
 show List.Perm ([x,a,b]++d::l) (d::([x,a,b]++l))
 exact List.perm_middle
theorem rW{L:List (Nat×Ob)}{dbs:List Nat}:keys (L++cD dbs) []=L.map Prod.fst++dbs:=by
 simp [keys,cD,xV]
theorem ofB_ok {h0:Hp} (ok:h0.t.Sized h0.n) {γ:Gra} {nb mb bp cb:Nat} {m:List Int} {c:Nat->Nat} {M:Nat} (hγ:Good γ) (hn:aY h0 nb (ptrTo bp) γ) (x:fh h0 mb (ptrTo cb) γ.nodes m c) (hM:eB m+1=(M:Int)) (hM5:M<=100):
 Ret xd 14 [ptrTo bp,ptrTo cb] h0 fun r h'=>Gr h0 h'/\ ∃fp fb B,r=ptrTo fp/\h0.n<=fp/\h0.n<=fb/\fp≠fb/\ia h' fp fb M γ.arcs.length ((γ.arcs.length+7)/8) B/\OkB γ c ((γ.arcs.length+7)/8) M 0 B:=by
 have S:=Si ok
 have n1:=hγ.n1
 have n2:=hγ.n2
 have many:=hγ.many
 have xl:=x.len
 have co: ∀{h},Gr h0 h->jZ h (ptrTo cb) m (M:Int):=fun g=>.inr ⟨⟨_,(x.gr g).at0⟩,by rw [hM]⟩
 refine ac (n:=33) (rs:=[.tmp 4]) rfl Tryz.e14 rfl rfl rfl (lbt rfl) ?_
 simp only [BS,LB,Nat.reduceLT,Nat.reduceEqDiff]
 refine aq (cfits_ok S.ok hn (co S.gr) n1 (by omega)) ?_
 intro h1 g1;replace S:=S.call g1
 simp only [BS,LB,Nat.reduceLT,Nat.reduceEqDiff,xl]
 refine aq (many_ok S.ok (co S.gr)) ?_
 intro h2 g2;replace S:=S.call g2
 simp only [BS,LB,Nat.reduceLT,Nat.reduceEqDiff]
 refine aq (kX S.ok (hn.gr S.gr)) ?_
 intro h3 g3;replace S:=S.call g3
 simp only [BS,LB,Nat.reduceLT,Nat.reduceEqDiff]
 refine step_ret (bmNew_ok S.ok hM5 (by omega)) ?_
 rintro r hN ⟨gN,fp,fb,rfl,nf,nfb,hne,BN⟩
 have k3:=S.gr.n
 have okS:=S.ok
 have gq:=S.gr.trans gN
 have kN:=gN.n
 have gS:=S.gr
 clear S
 have S:St (· =fb) hN hN [(fb,.row _ 1)] []:=St.init1 gN.ok (o:=.row _ 1) BN.b
 have zf:=BN.b.lt gN.ok
 have zp:=BN.r.lt gN.ok
 simp only [BS,Tryz.FFfl814]
 refine ag ax S ?_;clear S;intro h b5 S n_b5
 simp only [BS,LB,Nat.reduceLT,Nat.reduceEqDiff]
 refine az (aB S (i:=0) rfl ?_ ?_ ?_ ono) ?_
 . exact(by simp only [Tryz.FFfl814])
 . exact(by exact dR)
 . exact xj (lbt rfl)
 clear S;rintro h ⟨S,mo⟩;clear mo;simp only [LC,ah,lay,xo,xp,Nat.reduceAdd]at S
 simp only [BS,LB,Nat.reduceLT,Nat.reduceEqDiff]
 have gO: ∀{h:Hp} {L:List (Nat×Ob)} {G:List GL},St (· =fb) hN h L G->Gr h0 h:=fun S=>(gq.fr.trans S.fr (fun b e=>.inr (by subst e;omega)):Mo NoM _ _).gr
 have kO: ∀{h:Hp} {L:List (Nat×Ob)} {G:List GL},St (· =fb) hN h L G->ia hN fp fb M γ.arcs.length ((γ.arcs.length+7)/8) (fun _=>0)->Row h fp [.int .i64 M,.int .i64 γ.arcs.length,.int .i64 ((γ.arcs.length+7)/8:Nat),.slice (some ⟨fb,0,none⟩) (M*((γ.arcs.length+7)/8)) (M*((γ.arcs.length+7)/8))] 1:=fun S b=>Row.of_get (S.fr.get fp zp hne) b.r
 have hr:=fun {h:Hp} {L:List (Nat×Ob)} {G:List GL} (S:St (· =fb) hN h L G)=>kO S BN
 refine aq (many_ok S.ok (co (gO S))) ?_
 intro h4 g4;replace S:=S.call g4
 simp only [BS]
 generalize hlong:(γ.arcs.length+7)/8=long at*
 refine me (fun(k:Nat) ρ d h=>k<=M/\ ∃dbs B,d=dbs.map mj/\St (· =fb) hN h ([(b5,.row [ptrTo fp] 1),(fb,.row (gD (M*long) B) 1)]++cD dbs) []/\(∀j,B j<256)/\OkB γ c long k 0 B/\ρ 0=ptrTo bp/\ρ 1=ptrTo cb/\ρ 5=ptrTo b5/\ρ 18=.int .i64 (M:Nat)/\ρ 19=.int .i64 k) (fun k=>M-k) ?_ 0 _ _ _ ?_
 . clear S g4
   rintro k ih ρ d h ⟨hk,dbs,B,rfl,S,hB,oB,r0,r1,r5,r18,r19⟩
   have w:ao .i64 ((k:Int)+1)=((k+1:Nat):Int):=by rw [wrap64]<;>omega
   by_cases hlt:k<M
   . simp only [BS,LB,Nat.reduceLT,Nat.reduceEqDiff,Tryz.FFfl814,r18,r19,aG,hlt]
     refine ag ax S ?_;clear S;intro h b6 S n_b6
     simp only [BS,LB,Nat.reduceLT,Nat.reduceEqDiff]
     refine az (aB S (i:=0) rfl ?_ ?_ ?_ ono) ?_
     . exact(by simp only [Tryz.FFfl814])
     . exact(by exact bO)
     . exact xj (lbt rfl)
     clear S;rintro h ⟨S,mo⟩;clear mo;simp only [LC,ah,lay,xo,xp,Nat.reduceAdd]at S
     simp only [BS,LB,Nat.reduceLT,Nat.reduceEqDiff,Tryz.FFfl814,r0,r1,S.ld (b:=b6) (o:=0) m0 rfl]
     refine step_ret (worth_ok S.ok (k:=k) dR) ?_
     rintro v hW ⟨gW,w3,w4,w5,rfl,n3,n4,n5,e3,e4,e5⟩
     have kk: ∀b∈[b6,b5,fb]++dbs,h0.n<=b/\b<w3/\b<w4/\b<w5/\b<hW.n:=fun b hb=>by
      have hm:b∈keys ([(b6,Ob.row [.int .i64 (k:Nat)] 1),(b5,.row [ptrTo fp] 1),(fb,.row (gD (M*long) B) 1)]++cD dbs) []:=by rw [rW];exact hb
      have h1:=S.key_lt hm
      have h2:=S.key_own hm
      have h3:=gW.n
      have h4:h0.n<=b:=h2.elim (fun h=>by omega) (fun h=>by subst h;omega)
      omega
     replace S:=S.call gW
     have okw:=gW.n
     have hW0:=gO S
     have zN:=S.fr.n
     have it:=worth1_it ok S.ok hW0.keep hW0.n hγ hn x e3 e4 e5
     simp only [BS]
     refine iC S (g:=117) (a:=#[]) (b:=#[ptrTo w3,ptrTo w4,ptrTo w5]) (by simp [cg,aa,ab]) rfl rfl ?_
     intro h2 db lb S' hdb hlb g2
     obtain⟨X,hX,S'⟩: ∃X:eF,X=_/\St (· =fb) hN h2 ([(lb,.loop X),(db,.dfr),(b6,.row [.int .i64 (k:Nat)] 1),(b5,.row [ptrTo fp] 1),(fb,.row (gD (M*long) B) 1)]++cD dbs) []:=⟨_,rfl,S'⟩
     have hJ:Yld xd lb (fun i h' F=> ∃B,St (· =fb) hN h' ([(lb,.loop X),(db,.dfr),(b6,.row [.int .i64 (k:Nat)] 1),(b5,.row [ptrTo fp] 1),(fb,.row (gD (M*long) B) 1)]++cD dbs) []/\(∀j,B j<256)/\OkB γ c long k i B/\F=[lb,db,b6,b5,fb]++dbs) (fun _ _=>False) ((cF γ c k).map fun(a:Nat)=>[.int .i64 (a:Nat)]):=by
      refine⟨?_,?_,fun _ _ h=>h.elim,?_⟩
      . rintro i h F ⟨B,S,_,_,rfl⟩;exact⟨S.ok,fun b hb=>S.key_lt (by rw [rW];exact hb)⟩
      . rintro i h F h' ⟨B,S,a,b,rfl⟩ gg;exact⟨B,S.call gg,a,b,rfl⟩
      . rintro i x hR F hx ⟨B,S,hB,oB,rfl⟩
        have hil:i<(cF γ c k).length:=by
         have:=(List.getElem?_eq_some_iff.1 hx).1
         simpa using this
        rw [xk,xf hil]at hx
        cases hx
        have hxn:(cF γ c k)[i]<γ.arcs.length:=worthL_lt (xi hil)
        have oB':=oB.set hlong.symm hil hxn
        generalize(cF γ c k)[i]=a at hxn oB'
        subst hX
        refine iB (S.get m0) (by rw [Tryz.e14];rfl) rfl ?_
        have S0:=S
        replace S:=S.base
        simp only [BS,LB,Nat.reduceLT,Nat.reduceEqDiff]
        refine gJ S (i:=0) rfl rfl rfl rfl rfl ?_
        clear S;intro h S
        simp only [LC]at S
        simp only [BS,LB,Nat.reduceLT,Nat.reduceEqDiff,Tryz.FFfl814,r5,S.ld (b:=b6) (o:=0) m2 rfl,S.ld (b:=b5) (o:=0) m3 rfl]
        have BA:ia h fp fb M γ.arcs.length long B:=⟨hr (S0.rebase S),S.row (b:=fb) m4,hB⟩
        refine step_ret (bSet_ok S.ok BA hne hlt hxn hM5 (by omega) hlong.symm) ?_
        rintro v h5 ⟨f5,rfl,B5⟩
        have S5:=S.call1 (i:=4) (o':=.row _ 1) rfl f5 B5.b
        simp only [xH,xR]at S5
        clear S
        simp only [BS]
        refine ee S5 (i:=0) rfl ?_
        clear S5;intro h S
        simp only [LC]at S
        refine .inl ⟨rfl,_,⟨_,S0.rebase S,B5.lt,oB',rfl⟩,?_,fun c hc=>.inl hc⟩
        exact S.fr.mono fun b hb=>by simpa [keys,cD,xV]using hb
     refine fu (it lb _ _ (fun _ _ h=>h) hJ h2 ([lb,db,b6,b5,fb]++dbs) ?_ ⟨B,S',hB,oB,rfl⟩) fun o rc h' y=>ir y ?_
     . have kn:=g2.n
       refine⟨S'.ok,g2.n,fun b hb hd=>g2.get b hb,fun b hb h=>?_,fun b hb=>S'.key_lt (by simpa [keys,cD,xV]using hb)⟩
       simp only [xN,xK,xC,or_false]at hb
       obtain⟨h1,h2⟩:=h
       have hx:b=lb\/b=db\/b∈[b6,b5,fb]++dbs:=by
        rcases hb with(hb|hb|hb)|hb
        . exact .inl hb
        . exact .inr (.inl hb)
        . exact .inr (.inr (List.mem_append.2 (.inl (by simpa using hb))))
        . exact .inr (.inr (List.mem_append.2 (.inr hb)))
       rcases hx with rfl|rfl|hx
       . omega
       . omega
       . have:=kk b hx
         omega
     . rintro F ⟨B1,T,hB1,oB1,rfl⟩
       rw [xx]at oB1
       subst hX
       refine⟨_,T.get m0,xM,?_⟩
       replace T:=T.dead
       show Run _ _ _ _ _ _ _ _
       have T1:St (· =fb) hN _ ([(db,.dfr),(b6,.row [.int .i64 (k:Nat)] 1),(b5,.row [ptrTo fp] 1),(fb,.row (gD (M*long) B1) 1)]++cD dbs) []:=T
       have T':St (· =fb) hN _ ([(b5,.row [ptrTo fp] 1),(fb,.row (gD (M*long) B1) 1)]++(db,.dfr)::cD dbs) []:=(T1.permL perm_db).drop1
       simp only [BS,LB,Nat.reduceLT,Nat.reduceEqDiff,r19,w]
       exact ih (k+1) _ _ _ (by omega) ⟨by omega,db::dbs,B1,rfl,T',hB1,oB1.next,by simp [aa,r0,ab],by simp [aa,r1,ab],by simp [aa,r5,ab],by simp [aa,r18],by simp [aa]⟩
   . have:k=M:=by omega
     subst this
     have gE:=gO S
     have S0:=S
     simp only [LC]at S
     simp only [BS,LB,Nat.reduceLT,Nat.reduceEqDiff,Tryz.FFfl814,r5,r18,r19,aG,hlt,S.ld (b:=b5) (o:=0) m0 rfl]
     refine fF (jn dbs _ (L:=[(b5,_),(fb,_)]) (S0.permL yh) fun h4 S4=>?_)
     refine⟨rfl,(iH (by decide)).2 (fj.2 ?_)⟩
     refine⟨gO S4,fp,fb,B,?_,by omega,by omega,hne,⟨hr S4,S4.row m1,hB⟩,oB⟩
     exact rfl
 . exact⟨xw _,[],_,rfl,S,BN.lt,OkB.zero,by simp [aa,cm,ab],by simp [aa,cm,ab],by simp [aa,ab],by simp [aa],by simp [aa]⟩




theorem exTo{h0:Hp}(ok:h0.t.Sized h0.n){γ:Gra}(hγ:Good γ){pn:Value}{nb:Nat}(hn:aY h0 nb pn γ){s:Nat}(hs:s<γ.nodes)(v:Nat):IsD (seen γ.arcs Arc.t Arc.s) s v (dOf (seen γ.arcs Arc.t Arc.s) s v):=by
 obtain⟨_,_,_,_,_,_,_,D,_,_,_,_,_,_,_,hD,_⟩:=qM ok hγ hn hs
 exact(dOf_is (hD v)).2
end Go.Ab
end
section
namespace Go.Ab
end Go.Ab

end
section
namespace Go.Ab
open Go.Proofs
set_option maxRecDepth 10000

def borK(γ:Gra)(c:Nat->Nat)(k v j:Nat):Bool:=(γ.arcs.take j).any fun e=>decide (e.t=v/\c v=k/\c e.s≠k)
theorem borK_all{γ:Gra}{c:Nat->Nat}{k v:Nat}:borK γ c k v γ.arcs.length=jC γ c k v:=by
 rw [Bool.eq_iff_iff,uj,borK,xy,List.any_eq_true]
 constructor
 . rintro⟨e,he,h⟩
   obtain⟨h1,h2,h3⟩:=of_decide_eq_true h
   exact⟨h2,e,he,h1,h3⟩
 . rintro⟨h1,e,he,h2,h3⟩
   exact⟨e,he,decide_eq_true ⟨h2,h1,h3⟩⟩
theorem borK_succ{γ:Gra}{c:Nat->Nat}{k v j:Nat}(hj:j<γ.arcs.length):borK γ c k v (j+1)=(borK γ c k v j||decide (γ.arcs[j].t=v/\c v=k/\c γ.arcs[j].s≠k)):=by
 unfold borK
 rw [xm hj,List.any_append]
 simp
theorem qC{γ:Gra}{c:Nat->Nat}{k a:Nat}(ha:a<γ.arcs.length):a∈cF γ c k↔insB γ c k a=true\/ ∃b∈(xc γ.nodes).filter (jC γ c k),fS γ b a=true:=by
 unfold cF kM
 rw [xN,yf,List.mem_flatMap]
 simp only [yf,List.mem_range,ha,true_and]

def mW:Value->Option Tch
 | .map (some b)=>some (.blk b)
 | .slice (some a) _ _=>some (.blk a.block)
 |_=>none
theorem note_lenV{ρ:Operand->Value}{ts:Array TypeId}{a:Operand}{h h':Hp}:bK ρ false (.call ⟨.builtin .len,#[a],ts⟩) h h'=mW (ρ a):=by
 simp only [bK,cV,gQ,dB,touch,cond_false]
 cases ρ a<;>first|rfl|(rename_i x;cases x<;>rfl)|(rename_i x _ _;cases x<;>rfl)
theorem pair_len{v:Value}{g g':Hp}(hv: ∀c,mW v=some (.blk c)->leaves g g' c=true){k:Nat}{tr:List (Nat×Tch)}(hn:bg k tr=none):gP (some (.run g g')) (bg k (d6 k tr (mW v)))=true:=by
 cases hb:mW v with
 |none=>rw [show d6 k tr none=tr from rfl,hn];rfl
 | some t=>
   cases t with
   |blk c=>rw [show d6 k tr (some (.blk c))=(k,.blk c)::tr from rfl,bM];exact hv c hb
   | run a b=>
     unfold mW at hb
     split at hb<;>cases hb
theorem noteL_lt{α:Type}{h:Hp}{k:Nat}{enc:α->List Value}{v:Value}{xs:List α}(ok:h.t.Sized h.n)(s:aE h k enc v xs){c:Nat}(hc:mW v=some (.blk c)):c<h.n:=by
 rcases s with⟨rfl,_⟩|⟨b,o,s,cc,rfl,h2,h3⟩
 . cases hc
 . cases hc
   exact bI ok h3
theorem tB{h0:Hp}(ok:h0.t.Sized h0.n):bA xd 13 [] h0 (.bool true):=ret_orc rfl ⟨rfl,Gr.refl ok⟩
end Go.Ab
end
section
namespace Go.Ab
inductive mq(A:List Arc)(s:Nat):List Nat->Nat->Nat->Prop where
 |nil:mq A s [] s 0
 |snoc {l:List Nat} {w a:Nat}:mq A s l (A.getD a default).s w->a<A.length->mq A s (l++[a]) (A.getD a default).t (w+(A.getD a default).w)
def endA(A:List Arc)(s:Nat)(l:List Nat)(i:Nat):Nat:=if i=0 then s else(A.getD (l.getD (i-1) 0) default).t
def sumA(A:List Arc)(l:List Nat)(k:Nat):Nat:=((l.take k).map fun a=>(A.getD a default).w).sum
theorem pA{l:List Nat}{a i:Nat}(h:i<l.length):(l++[a]).getD i 0=l.getD i 0:=by
 rw [xe,xe,xu h]
theorem pH{l:List Nat}{a:Nat}:(l++[a]).getD l.length 0=a:=by simp [xe]
theorem uo{A:List Arc}{s a i:Nat}{l:List Nat}(h:i<=l.length):endA A s (l++[a]) i=endA A s l i:=by
 unfold endA
 split
 . rfl
 . rw [pA (by omega)]
theorem mq.at{A:List Arc}{s t w:Nat}{l:List Nat}(h:mq A s l t w):(∀i,i<l.length->l.getD i 0<A.length/\(A.getD (l.getD i 0) default).s=endA A s l i)/\endA A s l l.length=t/\sumA A l l.length=w:=by
 induction h with
 |nil=>exact⟨fun i hi=>absurd hi (Nat.not_lt_zero _),rfl,rfl⟩
 | @snoc l w a _ ha ih=>
   obtain⟨h1,h2,h3⟩:=ih
   have hl:(l++[a]).length=l.length+1:=by simp
   refine⟨fun i hi=>?_,?_,?_⟩
   . rcases Nat.lt_or_ge i l.length with h|h
     . rw [pA h,uo (Nat.le_of_lt h)];exact h1 i h
     . have:i=l.length:=by omega
       subst this
       rw [pH,uo (xn _)]
       exact⟨ha,h2.symm⟩
   . rw [hl]
     unfold endA
     rw [if_neg (by omega),Nat.add_sub_cancel,pH]
   . unfold sumA at h3⊢
     rw [xy]at h3⊢
     rw [yc,List.sum_append,h3]
     rfl
section
variable{A:List Arc}{N s:Nat}{al:Nat->Bool}{pi:Nat->Int}{σ:SS}
theorem Sv.pathA(h:Sv A N s al pi σ): ∀(n:Nat) {v:Nat},(σ.P v).length<=n->(v∈σ.O\/σ.K v≠none)->mq A s (σ.P v).reverse v (σ.L v):=by
 intro n
 induction n with
 | zero=>
   intro v hl hv
   rcases h.path v hv with⟨rfl,p0,l0⟩|⟨a,_,_,_,_,hp,_⟩
   . rw [p0,l0];exact .nil
   . rw [hp]at hl;simp at hl
 | succ n ih=>
   intro v hl hv
   rcases h.path v hv with⟨rfl,p0,l0⟩|⟨a,ha,_,ht,hs,hp,hL⟩
   . rw [p0,l0];exact .nil
   . rw [hp]at hl⊢
     rw [hL,List.reverse_cons,<-ht]
     exact .snoc (ih (by rw [List.length_cons]at hl;omega) (.inl hs)) ha
end
end Go.Ab

end
section
namespace Go.Ab
open Go.Proofs
set_option maxRecDepth 10000

end Go.Ab
end
section
namespace Go.Ab
open Go.Proofs
theorem tT{A:List Arc}{b v x:Nat}(h:IsD (seen A Arc.t Arc.s) b v x):IsD A v b x:=by
 have b1: ∀a∈A,∃e∈seen A Arc.t Arc.s,e.s=a.t/\e.t=a.s/\e.w=a.w:=fun a ha=>⟨⟨a.t,a.s,a.w⟩,yl ha,rfl,rfl,rfl⟩
 have b2: ∀a∈seen A Arc.t Arc.s,∃e∈A,e.s=a.t/\e.t=a.s/\e.w=a.w:=fun a ha=>by
  obtain⟨e,he,rfl⟩:=List.mem_map.1 ha
  exact⟨e,he,rfl,rfl,rfl⟩
 have key: ∀w,Wk A v b w↔Wk (seen A Arc.t Arc.s) b v w:=fun w=>⟨fun h=>by simpa using Wk.back b1 h .nil,fun h=>by simpa using Wk.back b2 h .nil⟩
 rcases h with⟨p1,p2,p3⟩|⟨p1,p2⟩
 . exact .inl ⟨p1,(key x).2 p2,fun w hw=>p3 w ((key w).1 hw)⟩
 . exact .inr ⟨p1,fun w hw=>p2 w ((key w).1 hw)⟩
section
variable{A:List Arc}{N s:Nat}{al:Nat->Bool}{pi:Nat->Int}{σ:SS}
theorem Sv.als(h:Sv A N s al pi σ): ∀(n:Nat) {v:Nat},(σ.P v).length<=n->(v∈σ.O\/σ.K v≠none)-> ∀a∈σ.P v,a<A.length/\al a=true:=by
 intro n
 induction n with
 | zero=>
   intro v hl hv a ha
   rw [List.eq_nil_of_length_eq_zero (Nat.le_zero.1 hl)]at ha;cases ha
 | succ n ih=>
   intro v hl hv a ha
   rcases h.path v hv with⟨rfl,p0,_⟩|⟨b,k1,k2,_,hs,hp,_⟩
   . rw [p0]at ha;cases ha
   . rw [hp]at hl ha
     rcases List.mem_cons.1 ha with rfl|ha
     . exact⟨k1,k2⟩
     . exact ih (by rw [List.length_cons]at hl;omega) (.inl hs) a ha
theorem ends_als{to:Nat}{r:Fd}(hA: ∀a∈A,a.t<N/\a.w<=cL)(he:Ends A al pi to σ r):Sv A N s al pi σ-> ∀a∈r.arcs,a<A.length/\al a=true:=by
 induction he with
 |none hn=>intro _ a ha;cases ha
 | @hit σ k hp=>intro h a ha;exact h.als _ (xn _) (.inr (by rw [hp.1];nofun)) a (List.mem_reverse.1 ha)
 | @step σ v k r hp hne _ ih=>intro h;exact ih (h.next hA hp.1).1
theorem ends_far{to:Nat}{r:Fd}(hA: ∀a∈A,a.t<N/\a.w<=cL)(hN:N<=12)(he:Ends A al pi to σ r):Sv A N s al pi σ->(r.dist<FAR/\mq A s r.arcs to r.dist)\/(r.dist=FAR/\r.arcs=[]):=by
 induction he with
 |none hn=>intro _;exact .inr ⟨rfl,rfl⟩
 | @hit σ k hp=>
   intro h
   have h2:=(h.bd to).1
   have h3:=xL cL (xh h.len hN)
   have:=iP
   have:=jM
   exact .inl ⟨by show σ.L to<FAR;omega,h.pathA _ (xn _) (.inr (by rw [hp.1];nofun))⟩
 | @step σ v k r hp hne _ ih=>intro h;exact ih (h.next hA hp.1).1
end
section
variable{γ:Gra}{s to:Nat}
theorem run_plain(hγ:Good γ)(hs:s<γ.nodes){als:List Bool}{fd:Fd}(he:(s=to/\fd=⟨0,[],[]⟩)\/(s≠to/\Ends γ.arcs (alF als) (piF []) to (fK (piF []) s) fd)):
 IsD (jv γ.arcs (alF als) (piF [])) s to fd.dist/\((fd.dist<FAR/\mq γ.arcs s fd.arcs to fd.dist)\/(fd.dist=FAR/\fd.arcs=[]/\s≠to))/\ ∀a∈fd.arcs,a<γ.arcs.length/\alF als a=true:=by
 have hA: ∀a∈γ.arcs,a.t<γ.nodes/\a.w<=cL:=fun a ha=>⟨(hγ.arcs a ha).2.1,(hγ.arcs a ha).2.2⟩
 have far:=iP
 have p0:piF []=fun _=>(0:Int):=funext fun v=>if_pos rfl
 rcases he with⟨rfl,rfl⟩|⟨hne,he⟩
 . exact⟨.inl ⟨by show 0<FAR;omega,.nil,fun w _=>xw _⟩,.inl ⟨by show 0<FAR;omega,.nil⟩,fun a ha=>by cases ha⟩
 . have hF:Feas γ.arcs (alF als) (piF []):=fun i hi h=>by rw [p0];show(0:Int)<=_+0;omega
   have sv:Sv γ.arcs γ.nodes s (alF als) (piF []) (fK (piF []) s):=sv_init hs
   refine⟨ends_isD hA hγ.n2 hF he sv (fe_init (by rw [p0];show(0:Int)<_;omega)) (fun h=>by
    have:(fK (piF []) s).O=[]:=by unfold fK dA;split<;>rfl
    rw [this]at h;cases h),?_,ends_als hA he sv⟩
   rcases ends_far hA hγ.n2 he sv with h|⟨h1,h2⟩
   . exact .inl h
   . exact .inr ⟨h1,h2,hne⟩
theorem run_all(hγ:Good γ)(hs:s<γ.nodes){fd:Fd}(he:(s=to/\fd=⟨0,[],[]⟩)\/(s≠to/\Ends γ.arcs (alF []) (piF []) to (fK (piF []) s) fd)):IsD γ.arcs s to fd.dist:=by
 have h:=(run_plain hγ hs he).1
 rw [show alF []=fun _=>true from rfl,show piF []=fun _=>(0:Int)from funext fun v=>if_pos rfl]at h
 exact h.congr fun a=>hArcs_all
end
end Go.Ab

end

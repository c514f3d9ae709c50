/- Nets, cells, flags: what the functions do (part 4). -/
import Derived.Test.YtoifagpcndmlgabGreatDoorNetC
open Go.Ab.Tryz
open Go.Ab.Tryz renaming abEnv->zL,e57E->X3
open List renaming range->zM,getD_eq_getElem?_getD->zO,getElem?_eq_getElem->Xb,mem_append_left->Xd,mem_append_right->Xe,take_succ_eq_append_getElem->Xh,getElem?_map->Xi,take->Xj,drop->Xk,not_mem_nil->Xl,getElem?_eq_none->Xm,mem_cons_of_mem->Xn,getElem_mem->Xo,take_length->Xp,mem_cons->Xq,length_map->Xr,flatMap_eq_foldl->Xs,flatMap_append->Xt,getElem?_append_left->Xu,filterMap_nil->Xv,append_nil->XB,foldl_cons->XC,map_eq_flatMap->XD,drop_zero->XE,length_append->XF,getElem?_append_right->XH,map_cons->XI,ext_getElem?->XK,drop_eq_getElem_cons->XL,map_nil->XN,length_cons->XO,mem_append->XQ,map_append->XS,take_zero->XV,all_cons->XX,filterMap_cons->XY,length_reverse->XZ,take_succ_cons->X2,all_nil->X4
open Nat renaming lt_of_succ_le->Xa,le_trans->Xc,zero_le->Xf,lt_of_lt_of_le->Xg,le_refl->Xy,zero_add->XA,add_sub_cancel->XG,zero_mul->XM,add_sub_cancel_left->XP,zero_ne_one->XR,mul_one->XT,one_mul->XU,mul_le_mul_right->XW
open Int renaming cast_ofNat_Int->Xw,toNat_natCast->Xx
open Bool renaming and_true->Xz
open Function renaming comp_def->XJ
set_option maxHeartbeats 4000000
set_option linter.defProp false
set_option linter.unusedVariables false
set_option linter.unusedSimpArgs false
section
namespace Go.Ab
open Go.Proofs
set_option maxRecDepth 10000
def Tryz.F0R:=aj t1<|aj t2<|aj t3<|aj t4<|aj t5<|aj t6<|aj Z3<|aj Z0<|aj t32<|aj t137<|aj t164<|Z1
def Tryz.F1I:=aj t1<|aj t3<|aj t4<|aj Z0<|aj t32<|aj t34<|aj t35<|aj Z6<|aj t164<|Z1
def Tryz.F1J:=aj t1<|aj t3<|aj t4<|t24
def Tryz.F00:=aj t1<|aj t2<|aj t3<|aj t4<|aj t5<|aj t6<|aj Z3<|aj Z4<|aj t24<|aj Z0<|aj t32<|aj t34<|aj t35<|aj Z6<|aj t137<|aj t164<|aj Z1<|t184
def Own(B:Nat->Prop)(hB h:Hp)(F:List Nat):Prop:=hB.n<=h.n/\ ∀b,B b->b<hB.n/\b∉F/\h.get b=hB.get b
theorem Own.gr{B:Nat->Prop}{hB h c:Hp}{F:List Nat}(o:Own B hB h F)(g:Gr h c):Own B hB c F:=
 ⟨Xc o.1 g.n,fun b a=>⟨(o.2 b a).1,(o.2 b a).2.1,(g.get b (Xg (o.2 b a).1 o.1)).trans (o.2 b a).2.2⟩⟩
theorem Own.mo{B:Nat->Prop}{hB h a:Hp}{F F':List Nat}(o:Own B hB h F)(m:Mo (· ∈F) h a)(e: ∀b∈F',b∈F\/h.n<=b):Own B hB a F':=
 ⟨Xc o.1 m.n,fun b f=>by
  obtain⟨c,d,g⟩:=o.2 b f
  have hlt:=Xg c o.1
  exact⟨c,fun i=>(e b i).elim d (fun h=>by omega),(m.get b hlt d).trans g⟩⟩
section
variable{γ:Gra}{nb mb bp k:Nat}{p:Value}{m:List Int}{c:Nat->Nat}
theorem won_ok{h0 hB:Hp}{D:Nat->Prop}(t:h0.t.Sized h0.n){K:Nat}{J:Nat->Hp->List Nat->Prop}{Z:Out->Hp->Prop}{xs:List (List Value)}(u:Good γ)(N: ∀v h,¬Z (.pan v) h)(Y:Yld zL K J Z xs){B:Nat->Prop}{b x:Nat}(y:B b)(O:hB.load b 0 1=some [.func (.yield K) #[] #[]])(P:D x)(e3:h0.load x 0 1=some [ptrTo bp])(e: ∀h F,ItS h0 D h F->aS h nb (ptrTo bp) γ)
 {g:FuncId} {post:Array Value} {f:Nat->Bool} (z: ∀h F,ItS h0 D h F->Own B hB h F-> ∀a,a<γ.arcs.length->aM zL g ([.int .i64 (a:Nat)]++post.toList) h (.bool (f a))) {j:Nat} (Q: ∀a,a<γ.arcs.length->f a=true->xs[j+((zM a).filter f).length]? =some [.int .i64 (a:Nat)]) {h:Hp} {F:List Nat} (s:ItS h0 D h F) (o:Own B hB h F) (l:J j h F):
 Ret zL 111 [.func (.func g) #[] post,ptrTo x,ptrTo b] h fun v r=>(v=.bool true/\ ∃F',ItS h0 D r F'/\Own B hB r F'/\J (j+((zM γ.arcs.length).filter f).length) r F')\/(v=.bool false/\Z (.ret (.bool false)) r):=by
 have L:=u.many
 have R:=s.load t e3 P
 refine ab (n:=21) (rs:=[.tmp 4]) rfl Tryz.e111 rfl rfl rfl (lbt rfl) ?_
 simp only [BS,LB,Nat.reduceLT,Nat.reduceEqDiff,F0R,R]
 refine am (j8 s.ok (e _ _ s)) ?_
 intro U A
 simp only [BS]
 refine aO (fun(i:Nat) q h=>i<=γ.arcs.length/\ ∃F,ItS h0 D h F/\Own B hB h F/\J (j+((zM i).filter f).length) h F/\q 0=.func (.func g) #[] post/\q 2=ptrTo b/\q 7=.int .i64 (γ.arcs.length:Nat)/\q 8=.int .i64 i) (fun i=>γ.arcs.length-i) ?_ 0 _ _ ?_
 . intro i M q h ⟨hi,F,s,o,l,r0,r2,r7,r8⟩
   have w:an .i64 ((i:Int)+1)=((i+1:Nat):Int):=by rw [wrap64]<;>omega
   by_cases hlt:i<γ.arcs.length
   . simp only [BS,LB,Nat.reduceLT,Nat.reduceEqDiff,r0,r7,r8,aB,hlt]
     refine am (z _ _ s o i hlt) ?_
     intro V d
     have C:=lg O ((o.gr d).2 b y).2.2
     cases E:f i with
     | true=>
       have G:((zM (i+1)).filter f).length=((zM i).filter f).length+1:=by rw [iZ,if_pos E];simp
       simp only [BS,LB,Nat.reduceLT,Nat.reduceEqDiff,F0R,r2,C]
       refine cI Y (s.gr d) (Y.gr _ _ _ _ l d) (i:=j+((zM i).filter f).length) (Q i hlt E) ?_ ?_ ?_
       . intro H S a T m3 I
         simp only [BS,LB,Nat.reduceLT,Nat.reduceEqDiff,r8,w]
         exact M (i+1) _ _ (by omega) ⟨by omega,S,T,(o.gr d).mo m3 I,by rw [G];exact a,by simp [aa,r0],by simp [aa,r2,ac],by simp [aa,r7],by simp [aa]⟩
       . intro H a _
         simp only [BS,LB,ae,Nat.reduceLT,Nat.reduceEqDiff]
         exact .inr a
       . intro v H a
         exact absurd a (N v H)
     | false=>
       have G:(zM (i+1)).filter f=(zM i).filter f:=by rw [iZ,if_neg (by rw [E];decide)];simp
       simp only [BS,LB,Nat.reduceLT,Nat.reduceEqDiff,r8,w]
       exact M (i+1) _ _ (by omega) ⟨by omega,F,s.gr d,o.gr d,by rw [G];exact Y.gr _ _ _ _ l d,by simp [aa,r0],by simp [aa,r2,ac],by simp [aa,r7],by simp [aa]⟩
   . have:i=γ.arcs.length:=by omega
     subst this
     simp only [BS,LB,ae,Nat.reduceLT,Nat.reduceEqDiff,r7,r8,aB,hlt]
     exact .inl ⟨F,s,o,l⟩
 . exact⟨Xf _,F,s.gr A,o.gr A,Y.gr _ _ _ _ l A,by simp [aa,bJ],by simp [aa,bJ,ac],by simp [aa],by simp [aa]⟩
theorem worth_ok{h0:Hp}(g:h0.t.Sized h0.n)(i:Fl p):Ret zL 57 [ptrTo bp,p,.int .i64 (k:Nat)] h0 fun v f=>Gr h0 f/\ ∃a b4 b5,v=.func (.func 110) #[] #[ptrTo a,ptrTo b4,ptrTo b5]/\h0.n<=a/\h0.n<=b4/\h0.n<=b5/\f.load a 0 1=some [ptrTo bp]/\f.load b4 0 1=some [p]/\f.load b5 0 1=some [.int .i64 (k:Nat)]:=by
 have S:=Si g
 refine ab (n:=8) (rs:=[.tmp 6]) rfl Tryz.e57 rfl rfl rfl (lbt rfl) ?_
 simp only [BS,Nat.reduceLT]
 refine ag (bC (by exact cq)) S ?_;clear S;intro h a S b
 simp only [BS,Nat.reduceLT,Nat.reduceEqDiff,if_false]
 refine ag (bC (by assumption)) S ?_;clear S;intro h b4 S d
 simp only [BS,Nat.reduceLT,Nat.reduceEqDiff,if_false]
 refine ag (bC (by exact aX)) S ?_;clear S;intro h b5 S e
 simp only [BS,LB,ae,Nat.reduceLT,Nat.reduceEqDiff]
 exact⟨S.gr,a,b4,b5,rfl,b,d,e,S.ld m2 rfl,S.ld m1 rfl,S.ld m0 rfl⟩
def insB(γ:Gra)(c:Nat->Nat)(k a:Nat):Bool:=decide (c (γ.arcs.getD a default).s=k/\c (γ.arcs.getD a default).t=k)
theorem worth2_ok{h:Hp}(e:h.t.Sized h.n)(b:Good γ)(f:aS h nb (ptrTo bp) γ)(x:eG h mb p γ.nodes m c){d b4 b5:Nat}(g:h.load d 0 1=some [ptrTo bp])(i:h.load b4 0 1=some [p])(j:h.load b5 0 1=some [.int .i64 (k:Nat)]){a:Nat}(l:a<γ.arcs.length):
 aM zL 112 ([.int .i64 (a:Nat)]++[ptrTo d,ptrTo b4,ptrTo b5]) h (.bool (insB γ c k a)):=by
 refine ab (n:=11) (rs:=[.tmp 5]) rfl Tryz.e112 rfl rfl rfl (lbt rfl) ?_
 simp only [BS,LB,Nat.reduceLT,Nat.reduceEqDiff,F1I,g,i,j]
 refine am (inside_ok (N:=0) e b f x l) ?_
 intro q o
 simp only [BS,LB,ae,Nat.reduceLT,Nat.reduceEqDiff]
 exact⟨rfl,o⟩
theorem worth3_ok{h:Hp}(g:h.t.Sized h.n){b d n:Nat}{f:Nat->Bool}(i:h.load b 0 1=some [.slice (some ⟨d,0,none⟩) n n])(R:Row h d (dB n f) 1){a:Nat}(e:a<n):
 aM zL 116 ([.int .i64 (a:Nat)]++[ptrTo b]) h (.bool (f a)):=by
 have S:=Si g
 have j:=R.load1 (bolC_at (f:=f) e)
 have l:(a:Int)<(n:Int):=by omega
 refine ab (n:=14) (rs:=[.tmp 3]) rfl Tryz.e116 rfl rfl rfl (lbt rfl) ?_
 simp only [BS,LB,ae,Nat.reduceLT,Nat.reduceEqDiff,F1J,i,l,e,j]
 exact S.gr
theorem flat_at{a b:Type}{f:a->List b}{l:List a}{j q:Nat}{x:b}(d:j<l.length)(h:(f l[j])[q]? =some x):(l.flatMap f)[((l.take j).flatMap f).length+q]? =some x:=by
 have e:l=l.take j++l[j]::l.drop (j+1):=by rw [<-XL d,List.take_append_drop]
 conv=>lhs;rw [e]
 rw [Xt,List.flatMap_cons,XH (by simp)]
 have g:=(List.getElem?_eq_some_iff.1 h).1
 have i:(Xj j l++l[j]::Xk (j+1) l).take j=l.take j:=by rw [<-e]
 rw [i,XP,Xu g]
 exact h
noncomputable def pA(γ:Gra)(b:Nat):List Nat:=(zM γ.arcs.length).filter (jC γ b)
noncomputable def d9(γ:Gra)(c:Nat->Nat)(k:Nat):List Nat:=(zM γ.arcs.length).filter (insB γ c k)++((zM γ.nodes).filter (borB γ c k)).flatMap (pA γ)
theorem worth1_it {hq h0:Hp} (K:hq.t.Sized hq.n) (t:h0.t.Sized h0.n) (kq:dW hq h0) (nq:hq.n<=h0.n) (y:Good γ) (hn:aS hq nb (ptrTo bp) γ) (x:eG hq mb p γ.nodes m c) {z b4 b5:Nat} (e3:h0.load z 0 1=some [ptrTo bp]) (e4:h0.load b4 0 1=some [p]) (e5:h0.load b5 0 1=some [.int .i64 (k:Nat)]):
 lS zL 110 [] [ptrTo z,ptrTo b4,ptrTo b5] h0 (fun c=>c=z\/c=b4\/c=b5\/c<hq.n) ((d9 γ c k).map fun(a:Nat)=>[.int .i64 (a:Nat)]):=by
 intro lb J Z hz Y h F s M
 have n2:=y.n2
 have fp:Fl p:=by obtain⟨b,_,rfl,_⟩:=x.at0;exact cq
 have kN: ∀h F,ItS h0 (fun c=>c=z\/c=b4\/c=b5\/c<hq.n) h F->dW hq h:=fun h F s=>s.keep kq nq (fun c V=>.inr (.inr (.inr V)))
 have u: ∀h F,ItS h0 (fun c=>c=z\/c=b4\/c=b5\/c<hq.n) h F->aS h nb (ptrTo bp) γ:=fun h F s=>hn.keep K (kN h F s)
 have C: ∀h F,ItS h0 (fun c=>c=z\/c=b4\/c=b5\/c<hq.n) h F->eG h mb p γ.nodes m c:=fun h F s=>x.keep K (kN h F s)
 have W: ∀a,a<γ.arcs.length->insB γ c k a=true->((d9 γ c k).map fun(a:Nat)=>[Value.int .i64 (a:Nat)])[0+((zM a).filter (insB γ c k)).length]? =some [.int .i64 (a:Nat)]:=fun a E q=>by
  have P:=sc q _ E
  unfold d9
  rw [XA,Xi,Xu (List.getElem?_eq_some_iff.1 P).1,P];rfl
 have S:=Si s.ok
 refine enter (n:=31) (rs:=[]) rfl Tryz.e110 rfl rfl rfl (lbt rfl) ?_
 simp only [BS,LB,Nat.reduceLT]
 refine ag (bC (by exact fQ)) S ?_;clear S;intro h l S X
 have s1:=s.gr S.gr
 have j1:=Y.gr _ _ _ _ M S.gr
 have zy:=(S.row (b:=l) m0).lt S.ok
 have ly:=S.ld (b:=l) (o:=0) m0 rfl
 have o1:Own (· =l) _ _ F:=⟨Xy _,fun b q=>⟨by subst q;exact zy,fun D=>by subst q;have:=s.lt _ D;omega,rfl⟩⟩
 simp only [BS,LB,Nat.reduceLT,Nat.reduceEqDiff]
 refine step_ret (won_ok t y hz Y (B:=(· =l)) rfl ly (.inl rfl) e3 u (g:=112) (post:=#[ptrTo z,ptrTo b4,ptrTo b5]) (f:=insB γ c k) (fun h F s _ a E=>worth2_ok s.ok y (u _ _ s) (C _ _ s) (s.load t e3 (.inl rfl)) (s.load t e4 (.inr (.inl rfl))) (s.load t e5 (.inr (.inr (.inl rfl)))) E) W s1 o1 j1) ?_
 rintro v h2 (⟨rfl,F2,A,o2,j2⟩|⟨rfl,z2⟩)
 . simp only [BS,LB,Nat.reduceLT,Nat.reduceEqDiff,F00,A.load t e3 (.inl rfl),A.load t e4 (.inr (.inl rfl)),A.load t e5 (.inr (.inr (.inl rfl)))]
   refine step_ret (border_ok A.ok y (u _ _ A) (C _ _ A) (k:=k)) ?_
   rintro H hB ⟨gB,Q,nB⟩
   have sA:=A.gr gB
   have jA:=Y.gr _ _ _ _ j2 gB
   have R:=o2.gr gB
   have lB:hB.load l 0 1=some [.func (.yield lb) #[] #[]]:=lg ly (R.2 l rfl).2.2
   have ad:l<hB.n:=Xg zy R.1
   have oB:Own (fun c=>c=l\/aq H c) hB hB F2:=⟨Xy _,fun b q=>⟨q.elim (fun e=>by subst e;exact ad) (fun h=>Q.lt sA.ok h),fun D=>q.elim (fun e=>(R.2 b e).2.1 D) (fun h=>by have:=nB b h;have:=A.lt b D;omega),rfl⟩⟩
   generalize T:(zM γ.nodes).filter (borB γ c k)=L at Q
   have af: ∀b∈L,b<γ.nodes:=fun b q=>by rw [<-T]at q;exact List.mem_range.1 (List.mem_filter.1 q).1
   have ak:L.length<=γ.nodes:=by rw [<-T];exact qE
   simp only [BS,LB,Nat.reduceLT,Nat.reduceEqDiff,F00,Q.lenq]
   refine aO (fun(j:Nat) I h=>j<=L.length/\ ∃F,ItS h0 (fun c=>c=z\/c=b4\/c=b5\/c<hq.n) h F/\Own (fun c=>c=l\/aq H c) hB h F/\J (((zM γ.arcs.length).filter (insB γ c k)).length+((L.take j).flatMap (pA γ)).length) h F/\I 1=ptrTo z/\I 5=.func (.func 111) #[] #[ptrTo z,ptrTo l]/\I 17=H/\I 18=.int .i64 (L.length:Nat)/\I 19=.int .i64 j) (fun j=>L.length-j) ?_ 0 _ _ ?_
   . clear S s1 j1 o1 A j2 o2 sA jA R oB
     intro j ih I h ⟨hj',F,s,o,M,r1,r5,r17,r18,r19⟩
     have w:an .i64 ((j:Int)+1)=((j+1:Nat):Int):=by rw [wrap64]<;>omega
     by_cases hlt:j<L.length
     . have q:=af _ (Xo hlt)
       have sl:ar h 1 bM H L:=sl_get Q (fun c V=>(o.2 c (.inr V)).2.2)
       obtain⟨d,oo,x0,U⟩:=sl.ix (kd:=.i64) cZ hlt
       have N: ∀a,a<γ.arcs.length->jC γ L[j] a=true->((d9 γ c k).map fun(a:Nat)=>[Value.int .i64 (a:Nat)])[((zM γ.arcs.length).filter (insB γ c k)).length+((L.take j).flatMap (pA γ)).length+((zM a).filter (jC γ L[j])).length]? =some [.int .i64 (a:Nat)]:=fun a E q=>by
        have P:(pA γ L[j])[((zM a).filter (jC γ L[j])).length]? =some a:=sc q _ E
        unfold d9
        rw [T,Xi,Nat.add_assoc,XH (by omega),XP,flat_at hlt P];rfl
       have tk:((L.take (j+1)).flatMap (pA γ)).length=((L.take j).flatMap (pA γ)).length+((zM γ.arcs.length).filter (jC γ L[j])).length:=by
        rw [Xh hlt,Xt,XF]
        simp [pA]
       generalize L[j]=b at q U N tk
       replace U:h.load d oo 1=some [.int .i64 (b:Nat)]:=U
       simp only [BS,LB,Nat.reduceLT,Nat.reduceEqDiff,F00,r1,r17,r18,r19,aB,hlt,x0,U,s.load t e3 (.inl rfl)]
       refine step_ret (arcsT_ok s.ok y (u _ _ s) q) ?_
       rintro r h4 ⟨g4,bl,rfl,R4,nl⟩
       have S:=Si g4.ok
       simp only [BS,F00]
       refine ag aw S ?_;clear S;intro h O S ai
       simp only [BS,LB,Nat.reduceLT,Nat.reduceEqDiff]
       refine az (ay S (i:=0) rfl Tryz.t24.2.2.1 cg (Xa (lbt rfl)) ono) ?_
       clear S;rintro h5 ⟨S,_⟩
       simp only [LC]at S
       have g5:=g4.trans S.gr
       have s5:=s.gr g5
       have j5:=Y.gr _ _ _ _ M g5
       have G:=o.gr g5
       have R8:=S.row (b:=O) m0
       have Rl:=R4.gr S.gr
       have k4:=g4.n
       have oC:Own (fun c=>(c=l\/aq H c)\/c=O\/c=bl) h5 h5 F:=⟨Xy _,fun b q=>by
        rcases q with q|rfl|rfl
        . exact⟨Xg (G.2 b q).1 G.1,(G.2 b q).2.1,rfl⟩
        . exact⟨R8.lt S.ok,fun D=>by have:=s.lt _ D;omega,rfl⟩
        . exact⟨Rl.lt S.ok,fun D=>by have:=s.lt _ D;omega,rfl⟩⟩
       have l5:h5.load l 0 1=some [.func (.yield lb) #[] #[]]:=lg lB (G.2 l (.inl rfl)).2.2
       simp only [BS,LB,Nat.reduceLT,Nat.reduceEqDiff,r5]
       refine step_ret (won_ok t y hz Y (B:=fun c=>(c=l\/aq H c)\/c=O\/c=bl) (.inl (.inl rfl)) l5 (.inl rfl) e3 u (g:=116) (post:=#[ptrTo O]) (f:=jC γ b) (fun h F s o a E=>worth3_ok s.ok (lg (R8.load1 (o:=0) rfl) (o.2 O (.inr (.inl rfl))).2.2) (Row.of_get (o.2 bl (.inr (.inr rfl))).2.2 Rl) E) N s5 oC j5) ?_
       rintro v h6 (⟨rfl,F6,s6,o6,j6⟩|⟨rfl,z6⟩)
       . simp only [BS,LB,Nat.reduceLT,Nat.reduceEqDiff,r19,w]
         refine ih (j+1) _ _ (by omega) ⟨by omega,F6,s6,⟨Xc G.1 o6.1,fun b q=>⟨(G.2 b q).1,(o6.2 b (.inl q)).2.1,(o6.2 b (.inl q)).2.2.trans (G.2 b q).2.2⟩⟩,by rw [tk,<-Nat.add_assoc];exact j6,by simp [aa,r1,ac],by simp [aa,r5],by simp [aa,r17],by simp [aa,r18],by simp [aa]⟩
       . simp only [BS,LB,Nat.reduceLT,Nat.reduceEqDiff]
         exact fi rfl ⟨rfl,.inr (.inl ⟨_,rfl,z6⟩)⟩
     . have:j=L.length:=by omega
       subst this
       simp only [BS,LB,Nat.reduceLT,r18,r19,aB,hlt]
       refine bS (cJ ⟨rfl,_,rfl,rfl,.inl ⟨_,F,rfl,?_⟩⟩)
       rw [Xp]at M
       rw [Xr]
       unfold d9
       rw [XF,T]
       exact M
   . exact⟨Xf _,F2,sA,oB,by simpa using jA,by simp [aa,bJ,ac],by simp [aa,ac],by simp [aa],by simp [aa],by simp [aa]⟩
 . simp only [BS,LB,Nat.reduceLT,Nat.reduceEqDiff]
   exact fi rfl ⟨rfl,.inr (.inl ⟨_,rfl,z2⟩)⟩
end
end Go.Ab

end
section
namespace Go.Ab
open Go.Proofs
set_option maxRecDepth 10000
def Tryz.Fs:=aj t1<|aj t2<|aj t3<|aj t4<|aj t5<|aj t6<|aj Z3<|aj Z4<|aj t9<|aj t10<|aj t11<|aj t22<|aj t23<|aj t24<|aj Z23<|aj Z0<|aj t32<|aj t34<|aj t35<|aj t36<|aj Z6<|aj t132<|aj Z8<|aj t164<|Z1
def OkB(e:Gra)(c:Nat->Nat)(b k i:Nat)(B:Nat->Nat):Prop:= ∀d a,a<e.arcs.length->(fj B b d a=true↔(d<k/\a∈d9 e c d)\/(d=k/\a∈(d9 e c k).take i))
theorem OkB.zero{d:Gra}{c:Nat->Nat}{b:Nat}:OkB d c b 0 0 (fun _=>0):=fun e a _=>by simp [fj]
theorem OkB.next{f:Gra}{c:Nat->Nat}{b k:Nat}{B:Nat->Nat}(o:OkB f c b k (d9 f c k).length B):OkB f c b (k+1) 0 B:=fun g a h=>by
 rw [o g a h,Xp]
 simp only [XV,Xl,and_false,or_false]
 constructor
 . rintro(⟨i,d⟩|⟨rfl,d⟩)
   . exact⟨by omega,d⟩
   . exact⟨by omega,d⟩
 . rintro⟨i,d⟩
   by_cases e:g=k
   . subst e;exact .inr ⟨rfl,d⟩
   . exact .inl ⟨by omega,d⟩
theorem OkB.set{d:Gra}{c:Nat->Nat}{b k i:Nat}{B:Nat->Nat}(n:b=(d.arcs.length+7)/8)(o:OkB d c b k i B)(l:i<(d9 d c k).length)(hlt:(d9 d c k)[i]<d.arcs.length):OkB d c b k (i+1) (cV B (k*b+(d9 d c k)[i]/8) (setB (B (k*b+(d9 d c k)[i]/8)) ((d9 d c k)[i]%8))):=fun j a m=>by
 rw [bitB_set (by omega) (by omega),Xh l]
 by_cases e:j=k/\a=(d9 d c k)[i]
 . rw [if_pos e]
   obtain⟨rfl,e⟩:=e
   subst e
   exact⟨fun _=>.inr ⟨rfl,List.mem_append.2 (.inr (List.mem_singleton.2 rfl))⟩,fun _=>rfl⟩
 . rw [if_neg e,o j a m]
   simp only [XQ,List.mem_singleton]
   constructor
   . rintro(h|⟨g,f⟩)
     . exact .inl h
     . exact .inr ⟨g,.inl f⟩
   . rintro(h|⟨g,f|f⟩)
     . exact .inl h
     . exact .inr ⟨g,f⟩
     . exact absurd ⟨g,f⟩ e
theorem worthL_lt{d:Gra}{c:Nat->Nat}{k a:Nat}(h:a∈d9 d c k):a<d.arcs.length:=by
 unfold d9 at h
 rcases List.mem_append.1 h with h|h
 . exact List.mem_range.1 (List.mem_filter.1 h).1
 . obtain⟨b,_,h⟩:=List.mem_flatMap.1 h
   exact List.mem_range.1 (List.mem_filter.1 h).1
theorem perm_db{c:Type}{x a b d:c}{l:List c}:List.Perm (x::([a,b]++(d::l))) ([d,x,a,b]++l):=by
 show List.Perm ([x,a,b]++d::l) (d::([x,a,b]++l))
 exact List.perm_middle
theorem xw{L:List (Nat×Ob)}{a:List Nat}:keys (L++dh a) []=L.map Prod.fst++a:=by
 simp [keys,dh,XJ]
theorem ofB_ok {h0:Hp} (ok:h0.t.Sized h0.n) {q:Gra} {nb mb bp cb:Nat} {m:List Int} {c:Nat->Nat} {M:Nat} (D:Good q) (hn:aS h0 nb (ptrTo bp) q) (x:eG h0 mb (ptrTo cb) q.nodes m c) (hM:fh m+1=(M:Int)) (R:M<=100):
 Ret zL 20 [ptrTo bp,ptrTo cb] h0 fun r O=>Gr h0 O/\ ∃t f B,r=ptrTo t/\h0.n<=t/\h0.n<=f/\t≠f/\ey O t f M q.arcs.length ((q.arcs.length+7)/8) B/\OkB q c ((q.arcs.length+7)/8) M 0 B:=by
 have S:=Si ok
 have n1:=D.n1
 have n2:=D.n2
 have ak:=D.many
 have xl:=x.len
 have co: ∀{h},Gr h0 h->jo h (ptrTo cb) m (M:Int):=fun g=>.inr ⟨⟨_,(x.gr g).at0⟩,by rw [hM]⟩
 refine ab (n:=33) (rs:=[.tmp 4]) rfl Tryz.e20 rfl rfl rfl (lbt rfl) ?_
 simp only [BS,LB,Nat.reduceLT,Nat.reduceEqDiff]
 refine am (Ae S.ok hn (co S.gr) n1 (by omega)) ?_
 intro h1 g1;replace S:=S.call g1
 simp only [BS,LB,Nat.reduceLT,Nat.reduceEqDiff,xl]
 refine am (th S.ok (co S.gr)) ?_
 intro P U;replace S:=S.call U
 simp only [BS,LB,Nat.reduceLT,Nat.reduceEqDiff]
 refine am (j8 S.ok (hn.gr S.gr)) ?_
 intro h3 g3;replace S:=S.call g3
 simp only [BS,LB,Nat.reduceLT,Nat.reduceEqDiff]
 refine step_ret (yR S.ok R (by omega)) ?_
 rintro r z ⟨V,t,f,rfl,nf,aL,H,W⟩
 have k3:=S.gr.n
 have a0:=S.ok
 have gq:=S.gr.trans V
 have kN:=V.n
 have gS:=S.gr
 clear S
 have S:St (· =f) z z [(f,.row _ 1)] []:=St.init1 V.ok (o:=.row _ 1) W.b
 have zf:=W.b.lt V.ok
 have zp:=W.r.lt V.ok
 simp only [BS,Fs]
 refine ag aw S ?_;clear S;intro h u S al
 simp only [BS,LB,Nat.reduceLT,Nat.reduceEqDiff]
 refine az (ay S (i:=0) rfl ?_ ?_ ?_ ono) ?_
 . exact(by simp only [Fs])
 . exact(by exact cq)
 . exact Xa (lbt rfl)
 clear S;rintro h ⟨S,mo⟩;clear mo;simp only [LC,ah,lay,Xj,Xk,Nat.reduceAdd]at S
 simp only [BS,LB,Nat.reduceLT,Nat.reduceEqDiff]
 have gO: ∀{h:Hp} {L:List (Nat×Ob)} {G:List GL},St (· =f) z h L G->Gr h0 h:=fun S=>(gq.fr.trans S.fr (fun b e=>.inr (by subst e;omega)):Mo NoM _ _).gr
 have kO: ∀{h:Hp} {L:List (Nat×Ob)} {G:List GL},St (· =f) z h L G->ey z t f M q.arcs.length ((q.arcs.length+7)/8) (fun _=>0)->Row h t [.int .i64 M,.int .i64 q.arcs.length,.int .i64 ((q.arcs.length+7)/8:Nat),.slice (some ⟨f,0,none⟩) (M*((q.arcs.length+7)/8)) (M*((q.arcs.length+7)/8))] 1:=fun S b=>Row.of_get (S.fr.get t zp H) b.r
 have hr:=fun {h:Hp} {L:List (Nat×Ob)} {G:List GL} (S:St (· =f) z h L G)=>kO S W
 refine am (th S.ok (co (gO S))) ?_
 intro h4 g4;replace S:=S.call g4
 simp only [BS]
 generalize A:(q.arcs.length+7)/8=l at*
 refine pS (fun(k:Nat) Q d h=>k<=M/\ ∃p B,d=p.map qk/\St (· =f) z h ([(u,.row [ptrTo t] 1),(f,.row (ia (M*l) B) 1)]++dh p) []/\(∀j,B j<256)/\OkB q c l k 0 B/\Q 0=ptrTo bp/\Q 1=ptrTo cb/\Q 5=ptrTo u/\Q 18=.int .i64 (M:Nat)/\Q 19=.int .i64 k) (fun k=>M-k) ?_ 0 _ _ _ ?_
 . clear S g4
   rintro k ih Q d h ⟨hk,p,B,rfl,S,hB,oB,r0,r1,r5,r18,r19⟩
   have w:an .i64 ((k:Int)+1)=((k+1:Nat):Int):=by rw [wrap64]<;>omega
   by_cases hlt:k<M
   . simp only [BS,LB,Nat.reduceLT,Nat.reduceEqDiff,Fs,r18,r19,aB,hlt]
     refine ag aw S ?_;clear S;intro h C S ax
     simp only [BS,LB,Nat.reduceLT,Nat.reduceEqDiff]
     refine az (ay S (i:=0) rfl ?_ ?_ ?_ ono) ?_
     . exact(by simp only [Fs])
     . exact(by exact aX)
     . exact Xa (lbt rfl)
     clear S;rintro h ⟨S,mo⟩;clear mo;simp only [LC,ah,lay,Xj,Xk,Nat.reduceAdd]at S
     simp only [BS,LB,Nat.reduceLT,Nat.reduceEqDiff,Fs,r0,r1,S.ld (b:=C) (o:=0) m0 rfl]
     refine step_ret (worth_ok S.ok (k:=k) cq) ?_
     rintro v hW ⟨gW,w3,w4,w5,rfl,n3,n4,n5,e3,e4,e5⟩
     have kk: ∀b∈[C,u,f]++p,h0.n<=b/\b<w3/\b<w4/\b<w5/\b<hW.n:=fun b s=>by
      have hm:b∈keys ([(C,Ob.row [.int .i64 (k:Nat)] 1),(u,.row [ptrTo t] 1),(f,.row (ia (M*l) B) 1)]++dh p) []:=by rw [xw];exact s
      have h1:=S.key_lt hm
      have P:=S.key_own hm
      have h3:=gW.n
      have h4:h0.n<=b:=P.elim (fun h=>by omega) (fun h=>by subst h;omega)
      omega
     replace S:=S.call gW
     have a1:=gW.n
     have Y:=gO S
     have zN:=S.fr.n
     have it:=worth1_it ok S.ok Y.keep Y.n D hn x e3 e4 e5
     simp only [BS]
     refine fq S (g:=110) (a:=#[]) (b:=#[ptrTo w3,ptrTo w4,ptrTo w5]) (by simp [bQ,aa,ac]) rfl rfl ?_
     intro P E I Z a2 a3 U
     obtain⟨X,hX,Z⟩: ∃X:eu,X=_/\St (· =f) z P ([(I,.loop X),(E,.dfr),(C,.row [.int .i64 (k:Nat)] 1),(u,.row [ptrTo t] 1),(f,.row (ia (M*l) B) 1)]++dh p) []:=⟨_,rfl,Z⟩
     have hJ:Yld zL I (fun i O F=> ∃B,St (· =f) z O ([(I,.loop X),(E,.dfr),(C,.row [.int .i64 (k:Nat)] 1),(u,.row [ptrTo t] 1),(f,.row (ia (M*l) B) 1)]++dh p) []/\(∀j,B j<256)/\OkB q c l k i B/\F=[I,E,C,u,f]++p) (fun _ _=>False) ((d9 q c k).map fun(a:Nat)=>[.int .i64 (a:Nat)]):=by
      refine⟨?_,?_,fun _ _ h=>h.elim,?_⟩
      . rintro i h F ⟨B,S,_,_,rfl⟩;exact⟨S.ok,fun b s=>S.key_lt (by rw [xw];exact s)⟩
      . rintro i h F O ⟨B,S,a,b,rfl⟩ gg;exact⟨B,S.call gg,a,b,rfl⟩
      . rintro i x hR F J ⟨B,S,hB,oB,rfl⟩
        have K:i<(d9 q c k).length:=by
         have:=(List.getElem?_eq_some_iff.1 J).1
         simpa using this
        rw [Xi,Xb K]at J
        cases J
        have N:(d9 q c k)[i]<q.arcs.length:=worthL_lt (Xo K)
        have ad:=oB.set A.symm K N
        generalize(d9 q c k)[i]=a at N ad
        subst hX
        refine fG (S.get m0) (by rw [Tryz.e20];rfl) rfl ?_
        have S0:=S
        replace S:=S.base
        simp only [BS,LB,Nat.reduceLT,Nat.reduceEqDiff]
        refine eH S (i:=0) rfl rfl rfl rfl rfl ?_
        clear S;intro h S
        simp only [LC]at S
        simp only [BS,LB,Nat.reduceLT,Nat.reduceEqDiff,Fs,r5,S.ld (b:=C) (o:=0) m2 rfl,S.ld (b:=u) (o:=0) m3 rfl]
        have BA:ey h t f M q.arcs.length l B:=⟨hr (S0.rebase S),S.row (b:=f) m4,hB⟩
        refine step_ret (bSet_ok S.ok BA H hlt N R (by omega) A.symm) ?_
        rintro v h5 ⟨f5,rfl,B5⟩
        have S5:=S.call1 (i:=4) (o':=.row _ 1) rfl f5 B5.b
        simp only [List.set_cons_zero,List.set_cons_succ]at S5
        clear S
        simp only [BS]
        refine dy S5 (i:=0) rfl ?_
        clear S5;intro h S
        simp only [LC]at S
        refine .inl ⟨rfl,_,⟨_,S0.rebase S,B5.lt,ad,rfl⟩,?_,fun c hc=>.inl hc⟩
        exact S.fr.mono fun b s=>by simpa [keys,dh,XJ]using s
     refine eg (it I _ _ (fun _ _ h=>h) hJ P ([I,E,C,u,f]++p) ?_ ⟨B,Z,hB,oB,rfl⟩) fun o rc O y=>iq y ?_
     . have kn:=U.n
       refine⟨Z.ok,U.n,fun b s hd=>U.get b s,fun b s h=>?_,fun b s=>Z.key_lt (by simpa [keys,dh,XJ]using s)⟩
       simp only [XQ,Xq,Xl,or_false]at s
       obtain⟨h1,P⟩:=h
       have J:b=I\/b=E\/b∈[C,u,f]++p:=by
        rcases s with(s|s|s)|s
        . exact .inl s
        . exact .inr (.inl s)
        . exact .inr (.inr (List.mem_append.2 (.inl (by simpa using s))))
        . exact .inr (.inr (List.mem_append.2 (.inr s)))
       rcases J with rfl|rfl|J
       . omega
       . omega
       . have:=kk b J
         omega
     . rintro F ⟨B1,T,ai,af,rfl⟩
       rw [Xr]at af
       subst hX
       refine⟨_,T.get m0,XR,?_⟩
       replace T:=T.dead
       show Run _ _ _ _ _ _ _ _
       have T1:St (· =f) z _ ([(E,.dfr),(C,.row [.int .i64 (k:Nat)] 1),(u,.row [ptrTo t] 1),(f,.row (ia (M*l) B1) 1)]++dh p) []:=T
       have T':St (· =f) z _ ([(u,.row [ptrTo t] 1),(f,.row (ia (M*l) B1) 1)]++(E,.dfr)::dh p) []:=(T1.permL perm_db).drop1
       simp only [BS,LB,Nat.reduceLT,Nat.reduceEqDiff,r19,w]
       exact ih (k+1) _ _ _ (by omega) ⟨by omega,E::p,B1,rfl,T',ai,af.next,by simp [aa,r0,ac],by simp [aa,r1,ac],by simp [aa,r5,ac],by simp [aa,r18],by simp [aa]⟩
   . have:k=M:=by omega
     subst this
     have gE:=gO S
     have S0:=S
     simp only [LC]at S
     simp only [BS,LB,Nat.reduceLT,Nat.reduceEqDiff,Fs,r5,r18,r19,aB,hlt,S.ld (b:=u) (o:=0) m0 rfl]
     refine dp (eR p _ (L:=[(u,_),(f,_)]) (S0.permL List.perm_append_comm) fun h4 S4=>?_)
     refine⟨rfl,(jw (by decide)).2 (dH.2 ?_)⟩
     refine⟨gO S4,t,f,B,?_,by omega,by omega,H,⟨hr S4,S4.row m1,hB⟩,oB⟩
     exact rfl
 . exact⟨Xf _,[],_,rfl,S,W.lt,OkB.zero,by simp [aa,bJ,ac],by simp [aa,bJ,ac],by simp [aa,ac],by simp [aa],by simp [aa]⟩
end Go.Ab
end
section
namespace Go.Ab
open Go.Proofs
set_option maxRecDepth 10000
def Tryz.F0S:=aj t1<|aj t4<|aj t5<|t100
def Tryz.F1K:=aj t1<|aj t2<|aj t3<|aj t4<|aj t5<|aj t22<|aj t36<|aj t100<|aj t101<|Z8
def Tryz.F0T:=aj t1<|aj t2<|aj t3<|aj t4<|aj t22<|aj t36<|aj Z8<|t137
def Tryz.F0h:=aj t1<|aj t2<|aj t3<|aj t4<|aj t9<|aj t22<|aj t34<|aj t36<|aj t132<|Z8
theorem get1_ok{h0:Hp}(g:h0.t.Sized h0.n){b j x i:Nat}(l:h0.load b j 1=some [.int .u8 (x:Nat)])(c:x<256)(d:i<8):aM zL 33 [.pointer (some ⟨b,j,none⟩),.int .u8 ((2 ^i:Nat):Int)] h0 (.bool (x.testBit i)):=by
 have S:=Si g
 cases f:x.testBit i with
 | true=>
   have a: ¬(((x&&& 2 ^i:Nat)):Int)=0:=fun e=>by
    have:(x&&& 2 ^i)=0:=by omega
    rw [and_pow,f]at this;cases this
   refine ab (n:=11) (rs:=[.tmp 4]) rfl Tryz.e33 rfl rfl rfl (lbt rfl) ?_
   simp only [BS,LB,ae,Nat.reduceLT,Nat.reduceEqDiff,F0S,l,b_and8 c (pow8 d),a]
   exact S.gr
 | false=>
   have a:(((x&&& 2 ^i:Nat)):Int)=0:=by
    have:=and_pow.2 f
    omega
   refine ab (n:=11) (rs:=[.tmp 4]) rfl Tryz.e33 rfl rfl rfl (lbt rfl) ?_
   simp only [BS,LB,ae,Nat.reduceLT,Nat.reduceEqDiff,F0S,l,b_and8 c (pow8 d),a]
   exact S.gr
section
variable{h0:Hp}{bp bb rows wide long:Nat}{B:Nat->Nat}
theorem wV(j:h0.t.Sized h0.n)(m:ey h0 bp bb rows wide long B){r i:Nat}(t:r<rows)(u:i<wide)(b:rows<=100)(c:wide<=1000)(d:long=(wide+7)/8):
 aM zL 11 [ptrTo bp,.int .i64 (r:Nat),.int .i64 (i:Nat)] h0 (.bool (fj B long r i)):=by
 obtain⟨w,x,y,z,k,M,l⟩:=rD t u b c d
 have A: ∀{h:Hp},Gr h0 h->aM zL 32 [ptrTo bp,.int .i64 (r:Nat),.int .i64 (i:Nat),.func (.func 33) #[] #[]] h (.bool (fj B long r i)):=by
  intro h g
  have S:=Si g.ok
  have e:=m.gr g
  have C: ¬(r:Int)<0:=by omega
  have D: ¬(rows:Int)<=(r:Int):=by omega
  have E: ¬(i:Int)<0:=by omega
  have F: ¬(wide:Int)<=(i:Int):=by omega
  have G:=e.r.load1 (o:=2) rfl
  have H:=e.r.load1 (o:=3) rfl
  have I:=e.b.load1 (sT k)
  have J:=e.r.lt g.ok
  refine ab (n:=46) (rs:=[.tmp 8]) rfl Tryz.e32 rfl rfl rfl (lbt rfl) ?_
  simp only [BS,LB,Nat.reduceLT,Nat.reduceEqDiff,C]
  refine am (kD S.ok e.bits) ?_;intro N f;replace S:=S.call f
  simp only [BS,LB,Nat.reduceLT,Nat.reduceEqDiff,D,E]
  refine am (jq S.ok (e.gr f).bits) ?_;intro O p;replace S:=S.call p
  have a:=f.trans p
  have K:=a.load G
  have L:=a.load H
  simp only [BS,LB,Nat.reduceLT,Nat.reduceEqDiff,F]
  refine au (aC rfl) (q:=0) (ps:=[]) (by kernel_rfl) ?_
  simp only [BS,LB,cls,Nat.reduceLT,Nat.reduceEqDiff,Nat.reduceAdd,Nat.reducePow,Nat.reduceDiv,Nat.reduceMod,Nat.reduceLeDiff,F1K,K,L,w,x,y,z,k,kJ (n:=8) (by decide),kK (n:=8) (by decide),b_shl8 l]
  refine cy (get1_ok S.ok (a.load I) (e.lt _) l) ?_
  intro P s
  have v:=av s (Xg J a.n)
  replace S:=S.call s
  simp only [BS,LB,cls,ae,Nat.reduceLT,Nat.reduceEqDiff,Nat.reduceAdd,Nat.reducePow,Nat.reduceDiv,Nat.reduceMod,Nat.reduceLeDiff]
  exact⟨rfl,S.gr⟩
 have S:=Si j
 refine ab (n:=11) (rs:=[.tmp 6]) rfl Tryz.e11 rfl rfl rfl (lbt rfl) ?_
 simp only [BS,LB,Nat.reduceLT,Nat.reduceEqDiff]
 refine am (A (Gr.refl j)) ?_
 intro h g
 simp only [BS,LB,ae,Nat.reduceLT,Nat.reduceEqDiff]
 exact g
end
theorem bOn_ok{h0:Hp}(g:h0.t.Sized h0.n){f r:Nat}:Ret zL 132 [ptrTo f,.int .i64 (r:Nat)] h0 fun v e=>Gr h0 e/\ ∃a b,v=.func (.func 178) #[] #[ptrTo a,ptrTo b]/\h0.n<=a/\h0.n<=b/\e.load a 0 1=some [ptrTo f]/\e.load b 0 1=some [.int .i64 (r:Nat)]:=by
 have S:=Si g
 refine ab (n:=6) (rs:=[.tmp 4]) rfl Tryz.e132 rfl rfl rfl (lbt rfl) ?_
 simp only [BS,Nat.reduceLT]
 refine ag (bC (by exact cq)) S ?_;clear S;intro h a S c
 simp only [BS,Nat.reduceLT,Nat.reduceEqDiff,if_false]
 refine ag (bC (by exact aX)) S ?_;clear S;intro h b S d
 simp only [BS,LB,ae,Nat.reduceLT,Nat.reduceEqDiff]
 exact⟨S.gr,a,b,rfl,c,d,S.ld m1 rfl,S.ld m0 rfl⟩
section
variable{h0:Hp}{bp bb rows wide long:Nat}{B:Nat->Nat}
theorem ey.its{D:Nat->Prop}{h:Hp}{F:List Nat}(s:ItS h0 D h F)(a:h0.t.Sized h0.n)(m:ey h0 bp bb rows wide long B)(b:D bp)(c:D bb):ey h bp bb rows wide long B:=
 ⟨Row.of_get (s.data bp (m.r.lt a) b) m.r,Row.of_get (s.data bb (m.b.lt a) c) m.b,m.lt⟩
theorem on1_it (b:h0.t.Sized h0.n) (m:ey h0 bp bb rows wide long B) {r:Nat} (D:r<rows) (d:rows<=100) (e:wide<=1000) (f:long=(wide+7)/8) {k l:Nat} (y:h0.load k 0 1=some [ptrTo bp]) (e3:h0.load l 0 1=some [.int .i64 (r:Nat)]):
 lS zL 178 [] [ptrTo k,ptrTo l] h0 (fun c=>c=k\/c=l\/c=bp\/c=bb) (((zM wide).filter (fj B long r)).map fun(i:Nat)=>[.int .i64 (i:Nat)]):=by
 intro E J Z G Y h F s g
 have o:=s.load b y (.inl rfl)
 refine enter (n:=21) (rs:=[]) rfl Tryz.e178 rfl rfl rfl (lbt rfl) ?_
 simp only [BS,LB,Nat.reduceLT,F0T,o]
 refine am (jq s.ok (m.its s b (.inr (.inr (.inl rfl))) (.inr (.inr (.inr rfl)))).bits) ?_
 intro N q
 have z:=s.gr q
 have A:=Y.gr _ _ _ _ g q
 simp only [BS]
 refine aO (fun(i:Nat) j h=>i<=wide/\ ∃F,ItS h0 (fun c=>c=k\/c=l\/c=bp\/c=bb) h F/\J ((zM i).filter (fj B long r)).length h F/\j 0=.func (.yield E) #[] #[]/\j 1=ptrTo k/\j 2=ptrTo l/\j 6=.int .i64 (wide:Nat)/\j 7=.int .i64 i) (fun i=>wide-i) ?_ 0 _ _ ?_
 . clear o s g z A F q h
   intro i C j h ⟨hi,F,s,g,r0,r1,r2,r6,r7⟩
   have w:an .i64 ((i:Int)+1)=((i+1:Nat):Int):=by rw [wrap64]<;>omega
   by_cases hlt:i<wide
   . have o:=s.load b y (.inl rfl)
     have H:=s.load b e3 (.inr (.inl rfl))
     have I:=m.its s b (.inr (.inr (.inl rfl))) (.inr (.inr (.inr rfl)))
     simp only [BS,LB,Nat.reduceLT,Nat.reduceEqDiff,F0T,r1,r2,r6,r7,aB,hlt,o,H]
     refine am (wV s.ok I D hlt d e f) ?_
     intro O p
     cases t:fj B long r i with
     | true=>
       have K:(((zM wide).filter (fj B long r)).map fun(i:Nat)=>[Value.int .i64 (i:Nat)])[((zM i).filter (fj B long r)).length]? =some [.int .i64 (i:Nat)]:=by
        rw [Xi,sc t _ hlt];rfl
       have u:((zM (i+1)).filter (fj B long r)).length=((zM i).filter (fj B long r)).length+1:=by rw [iZ,if_pos t];simp
       simp only [BS,LB,Nat.reduceLT,Nat.reduceEqDiff,r0]
       refine cI Y (s.gr p) (Y.gr _ _ _ _ g p) (i:=((zM i).filter (fj B long r)).length) K ?_ ?_ ?_
       . intro x L a M _ _
         simp only [BS,LB,Nat.reduceLT,Nat.reduceEqDiff,r7,w]
         exact C (i+1) _ _ (by omega) ⟨by omega,L,M,by rw [u];exact a,by simp [aa,r0],by simp [aa,r1,ac],by simp [aa,r2,ac],by simp [aa,r6],by simp [aa]⟩
       . intro x a _
         simp only [BS,LB,Nat.reduceLT,Nat.reduceEqDiff]
         exact fi rfl ⟨rfl,.inr (.inl ⟨_,rfl,a⟩)⟩
       . intro v x a
         exact absurd a (G v x)
     | false=>
       have u:(zM (i+1)).filter (fj B long r)=(zM i).filter (fj B long r):=by rw [iZ,if_neg (by rw [t];decide)];simp
       simp only [BS,LB,Nat.reduceLT,Nat.reduceEqDiff,r7,w]
       exact C (i+1) _ _ (by omega) ⟨by omega,F,s.gr p,by rw [u];exact Y.gr _ _ _ _ g p,by simp [aa,r0],by simp [aa,r1,ac],by simp [aa,r2,ac],by simp [aa,r6],by simp [aa]⟩
   . simp only [BS,LB,Nat.reduceLT,r6,r7,aB,hlt]
     have:i=wide:=by omega
     subst this
     exact bS (cJ ⟨rfl,_,rfl,rfl,.inl ⟨_,F,rfl,by simpa using g⟩⟩)
 . exact⟨Xf _,F,z,A,by simp [aa,bJ],by simp [aa,bJ,ac],by simp [aa,bJ,ac],by simp [aa],by simp [aa]⟩
theorem bRow_ok(H:h0.t.Sized h0.n)(m:ey h0 bp bb rows wide long B){r:Nat}(hr:r<rows)(s:rows<=100)(d:wide<=1000)(t:long=(wide+7)/8):
 Ret zL 74 [ptrTo bp,.int .i64 (r:Nat)] h0 fun v w=>Gr h0 w/\ar w 1 bM v ((zM wide).filter (fj B long r))/\ ∀c,aq v c->h0.n<=c:=by
 have S:=Si H
 refine ab (n:=15) (rs:=[.cell 4 34]) rfl Tryz.e74 rfl rfl rfl (lbt rfl) ?_
 simp only [BS,F0h]
 refine ag aw S ?_;clear S;intro h p S R
 simp only [BS,LB,Nat.reduceLT,Nat.reduceEqDiff]
 have k4:=(S.row (b:=p) m0).lt S.ok
 refine step_ret (bOn_ok S.ok) ?_
 rintro v U ⟨g,b2,b3,rfl,n2,n3,y2,y3⟩
 have I:=m.gr (S.gr.trans g)
 replace S:=S.call g
 have V:=on1_it S.ok I hr s d t y2 y3
 have zp:=I.r.lt S.ok
 have zb:=I.b.lt S.ok
 have wp:=m.r.lt H
 have wb:=m.b.lt H
 generalize J:(zM wide).filter (fj B long r)=f at V
 have af:f.length<=1000:=by rw [<-J];exact Xc qE d
 simp only [BS]
 replace S:=S.nilG (k:=1)
 refine fq S (g:=178) (a:=#[]) (b:=#[ptrTo b2,ptrTo b3]) (by simp [bQ,aa,ac]) rfl rfl ?_
 intro K G u A M N W
 obtain⟨X,Y,A⟩: ∃X:eu,X=_/\St NoM h0 K [(u,.loop X),(G,.dfr),(p,.row [.slice none 0 0] 1)] [(.slice none 0 0,1,[])]:=⟨_,rfl,A⟩
 have hJ:Yld zL u (fun k w F=> ∃(l:Value),St NoM h0 w [(u,.loop X),(G,.dfr),(p,.row [l] 1)] [(l,1,eJ (f.take k))]/\k<=f.length/\F=keys [(u,.loop X),(G,.dfr),(p,.row [l] 1)] [(l,1,eJ (f.take k))]/\(∀c∈F,U.n<=c\/c=p)) (fun _ _=>False) (f.map fun(i:Nat)=>[.int .i64 (i:Nat)]):=by
  refine⟨?_,?_,fun _ _ h=>h.elim,?_⟩
  . rintro i h F ⟨l,S,_,rfl,_⟩;exact⟨S.ok,fun b q=>S.key_lt q⟩
  . rintro i h F w ⟨l,S,a,rfl,c⟩ gg;exact⟨l,S.call gg,a,rfl,c⟩
  . rintro i x hR F O ⟨l,S,a,rfl,Z⟩
    have C:i<f.length:=by
     have:=(List.getElem?_eq_some_iff.1 O).1
     simpa using this
    rw [Xi,Xb C]at O
    cases O
    have tk:eJ (f.take (i+1))=eJ (f.take i)++[.int .i64 (f[i]:Nat)]:=by
     rw [Xh C]
     unfold eJ
     rw [XS];rfl
    have tl:(eJ (f.take i)).length<=i:=by rw [mF,List.length_take];omega
    generalize f[i]=x at tk
    have ai:Fl l:=(S.gown _ m0).1.fl
    subst Y
    refine fG (S.get m0) (by rw [Tryz.e74];rfl) rfl ?_
    have S0:=S
    have kR:=S.fr.n
    have lim:U.n<=hR.n:=by
     have h1:=Z u (by simp [keys])
     have K:=S.key_lt (b:=u) (by simp [keys])
     omega
    replace S:=S.base
    simp only [BS,LB,Nat.reduceLT,Nat.reduceEqDiff]
    refine eH S (i:=0) rfl rfl rfl rfl rfl ?_
    clear S;intro h S
    simp only [LC]at S
    simp only [BS,LB,Nat.reduceLT,Nat.reduceEqDiff,F0h,S.ld (b:=p) (o:=0) m2 rfl]
    refine ag (bR (by exact Tryz.t34.1) (by exact Tryz.e3E) (by decide) (by rfl)) S ?_;clear S;intro h bs S ad;simp only [LC,aV,bK,ah,Nat.reduceMul,Nat.reduceAdd,XM,XA,XT,XU]at S
    simp only [BS,LB,Nat.reduceLT,Nat.reduceEqDiff]
    have D:aJ h 1 (.slice (some ⟨bs,0,none⟩) 1 1)=some (1,[.int .i64 (x:Nat)]):=by simp only [aJ];rw [S.lds (b:=bs) (o:=0) (n:=1*1) m0 (lbt rfl)];rfl
    replace S:=S.drop1
    refine dM (S.grow (j:=0) (m:=1) (new:=[.int .i64 (x:Nat)]) rfl Tryz.t34.1 Tryz.e3E (by decide) Tryz.t34.2.2.2.2.2 D rfl (by decide) rfl (by rw [mF];simp;omega)) ?_
    clear S D;rintro h E S
    simp only [LC]at S
    have P:Fl E:=(S.gown _ m0).1.fl
    simp only [BS,LB,Nat.reduceLT,Nat.reduceEqDiff]
    refine az (ay S (i:=2) rfl Tryz.t34.2.2.1 P (Xa (lbt rfl)) ono) ?_
    clear S;rintro h ⟨S,_⟩
    simp only [LC]at S
    simp only [BS]
    refine dy S (i:=0) rfl ?_
    clear S;intro h S
    simp only [LC]at S
    rw [<-tk]at S
    refine .inl ⟨rfl,_,⟨E,S0.rebase S,by omega,rfl,fun c z=>?_⟩,S.fr,S.key_new⟩
    rcases S.key_new c z with h|h
    . exact Z c h
    . exact .inl (by omega)
 refine eg (V u _ _ (fun _ _ h=>h) hJ K _ ?_ ⟨_,A,Xf _,rfl,fun c z=>?_⟩) fun o rc w y=>iq y ?_
 . refine⟨A.ok,W.n,fun b q _=>W.get b q,fun b q h=>?_,fun b q=>A.key_lt q⟩
   simp only [keys,XI,XN,XY,ez,Xv,XB,Xq,Xl,or_false]at q
   rcases q with rfl|rfl|rfl
   . omega
   . omega
   . rcases h.2 with e|e|e|e<;>omega
 . simp only [keys,XI,XN,XY,ez,Xv,XB,Xq,Xl,or_false]at z
   rcases z with rfl|rfl|rfl
   . exact .inl N
   . exact .inl M
   . exact .inr rfl
 . rintro F ⟨l,T,b,rfl,_⟩
   rw [Xr,Xp]at T
   subst Y
   refine⟨_,T.get m0,XR,?_⟩
   replace T:=T.dead
   have S:=T
   show Run _ _ _ _ _ _ _ _
   simp only [BS,LB,Nat.reduceLT,Nat.reduceEqDiff,F0h,S.ld (b:=p) (o:=0) m1 rfl]
   have P:Fl l:=(T.gown _ m0).1.fl
   clear S
   refine az (ay T (i:=1) rfl Tryz.t34.2.2.1 P (Xa (lbt rfl)) ono) ?_
   clear T;rintro h3 ⟨T,_⟩
   simp only [List.set_cons_zero,List.set_cons_succ]at T
   simp only [BS]
   refine dp (eR [G] _ (L:=[(p,_)]) T.base fun h4 Q=>?_)
   refine⟨rfl,(cU (by decide) (by simp only [aK,ac,Nat.reduceEqDiff,reduceIte];exact gf Tryz.t34.2.1 (Q.ld (b:=p) (o:=0) m0 rfl))).2 (dH.2 ⟨(T.rebase Q).gr,(Q.gown _ m0).1.sl (sZ _).symm cZ (by decide),fun c z=>?_⟩)⟩
   rcases(T.gblk m0 z).1 with h|h
   . exact h
   . exact h.elim
end
end Go.Ab

end
section
namespace Go.Ab
open Go.Proofs
set_option maxRecDepth 10000
def Tryz.F0U:=aj t1<|aj t2<|aj t3<|aj t4<|aj t5<|aj t6<|aj Z3<|aj Z4<|aj t9<|aj t22<|aj t24<|aj t34<|aj t36<|Z8
theorem allowF_ok{h0:Hp}(N:h0.t.Sized h0.n){I O l f g k:Nat}{B:Nat->Nat}(m:ey h0 I O l f g B)(P:k<l)(p:l<=100)(q:f<=1000)(s:g=(f+7)/8):
 Ret zL 28 [ptrTo I,.int .i64 (k:Nat)] h0 fun r D=>Gr h0 D/\ ∃o,r=.slice (some ⟨o,0,none⟩) f f/\Row D o (dB f (fj B g k)) 1/\h0.n<=o:=by
 have S:=Si N
 have Q: ¬((k:Int)<0):=by omega
 have R: ¬((l:Int)<=(k:Int)):=by omega
 refine ab (n:=32) (rs:=[.tmp 4]) rfl Tryz.e28 rfl rfl rfl (lbt rfl) ?_
 simp only [BS,LB,Nat.reduceLT,Nat.reduceEqDiff,Q]
 refine am (kD S.ok m.bits) ?_
 intro T U;replace S:=S.call U
 simp only [BS,LB,Nat.reduceLT,Nat.reduceEqDiff,R]
 refine am (jq S.ok (m.gr S.gr).bits) ?_
 intro h2 V;replace S:=S.call V
 simp only [BS,LB,Nat.reduceLT,Nat.reduceEqDiff]
 refine ag (jW (by exact Tryz.t24.1) (by exact Tryz.e4E) (by omega) (by omega)) S ?_;clear S;intro h o S y
 have W:aV [Value.bool false] f=dB f (fun a=>decide (a∈((zM f).filter (fj B g k)).take 0)):=by
  rw [mQ]
  unfold dB
  simp [List.map_const']
 rw [Xx,W]at S
 simp only [BS,LB,Nat.reduceLT,Nat.reduceEqDiff,Xx]
 refine step_ret (bRow_ok S.ok (m.gr S.gr) P p q s) ?_
 rintro v X ⟨Y,E,Z⟩
 have k3:=(S.row (b:=o) m0).lt S.ok
 replace S:=S.call Y
 generalize F:(zM f).filter (fj B g k)=L at E S
 have G: ∀a∈L,a<f:=fun a J=>by rw [<-F]at J;exact List.mem_range.1 (List.mem_filter.1 J).1
 have ad:L.length<=f:=by rw [<-F];exact qE
 have af:=S.ok
 have nA:=S.gr
 simp only [BS,LB,Nat.reduceLT,Nat.reduceEqDiff,F0U,E.lenq]
 refine aO (fun(i:Nat) z h=>i<=L.length/\St NoM h0 h [(o,.row (dB f (fun a=>decide (a∈L.take i))) 1)] []/\(∀c,aq v c->h.get c=X.get c)/\z 5=.slice (some ⟨o,0,none⟩) f f/\z 21=v/\z 22=.int .i64 (L.length:Nat)/\z 23=.int .i64 i) (fun i=>L.length-i) ?_ 0 _ _ ?_
 . clear S
   intro i ih z h ⟨hi,S,hv,r5,r21,r22,r23⟩
   have w:an .i64 ((i:Int)+1)=((i+1:Nat):Int):=by rw [wrap64]<;>omega
   by_cases hlt:i<L.length
   . have K:=sl_get E hv
     obtain⟨d,oo,x0,A⟩:=K.ix (kd:=.i64) cZ hlt
     have t:=G _ (Xo hlt)
     have H:dB f (fun u=>decide (u∈L.take (i+1)))=(dB f (fun u=>decide (u∈L.take i))).set L[i] (.bool true):=by
      rw [zR]
      refine kh fun j _=>?_
      rw [Xh hlt]
      simp only [XQ,List.mem_singleton]
      by_cases e1:j=L[i]<;>by_cases e2:j∈L.take i<;>simp [e1,e2]
     rw [show(L.take (i+1))=L.take (i+1)from rfl]at H
     generalize L[i]=x at t A H
     replace A:h.load d oo 1=some [.int .i64 (x:Nat)]:=A
     simp only [BS,LB,Nat.reduceLT,Nat.reduceEqDiff,F0U,r5,r21,r22,r23,aB,hlt,x0,A]
     have M:=S
     replace S:=S.base
     simp only [BS,LB,Nat.reduceLT,Nat.reduceEqDiff,t]
     refine az (ay S (i:=0) rfl Tryz.t4.2.2.1 mC (by rw [ry];exact t) ono) ?_
     clear S;rintro D ⟨S,mo⟩
     simp only [LC]at S
     simp only [BS,LB,Nat.reduceLT,Nat.reduceEqDiff,r23,w]
     refine ih (i+1) _ _ (by omega) ⟨by omega,?_,?_,by simp [aa,r5],by simp [aa,r21],by simp [aa,r22],by simp [aa]⟩
     . rw [H];exact M.rebase S
     . intro c C
       have T:=Z c C
       exact(mo.get c (K.blt M.ok C) (fun e=>by have e:c=o:=e;omega)).trans (hv c C)
   . have:i=L.length:=by omega
     subst this
     simp only [BS,LB,ae,Nat.reduceLT,Nat.reduceEqDiff,r5,r22,r23,aB,hlt]
     refine⟨S.gr,o,rfl,?_,y⟩
     have e:dB f (fj B g k)=dB f (fun a=>decide (a∈L.take L.length)):=kh fun j hj=>by
      rw [Xp,<-F]
      simp [List.mem_filter,hj]
     rw [e]
     exact S.row m0
 . exact⟨Xf _,S,fun c C=>rfl,by simp [aa],by simp [aa],by simp [aa],by simp [aa]⟩

end Go.Ab
end
section
namespace Go.Ab
structure Ev where
 kind:Nat
 id:Nat
 lab:Nat
def ie(e:Ev):List Value:=[.int .i64 e.kind,.int .i64 0,.int .i64 e.id,.int .i64 e.lab]
theorem ra(e:Ev):(ie e).length=4:=rfl
structure SS where
 K:Nat->Option Int
 L:Nat->Nat
 P:Nat->List Nat
 O:List Nat
 ev:List Ev
structure Fd where
 dist:Nat
 arcs:List Nat
 ev:List Ev
def Pops(K:Nat->Option Int)(v:Nat)(k:Int):Prop:=K v=some k/\ ∀u a,K u=some a->k<a\/(k=a/\v<=u)
theorem Pops.uniq{K:Nat->Option Int}{v u:Nat}{k k':Int}(h:Pops K v k)(g:Pops K u k'):v=u/\k=k':=by
 have a:=h.2 _ _ g.1
 have b:=g.2 _ _ h.1
 omega
def kY(P:Nat->List Nat)(v:Nat)(l:List Nat):Nat->List Nat:=fun u=>if u=v then l else P u
def dN(pi:Nat->Int)(σ:SS)(v lab:Nat)(p:List Nat):SS:=
 if v∈σ.O\/(FAR:Int)<=pi v\/((σ.K v).isSome=true/\σ.L v<=lab)then σ else⟨cK σ.K v (some (lab+pi v)),cV σ.L v lab,kY σ.P v p,σ.O,σ.ev⟩
def cP(σ:SS)(v:Nat):SS:=⟨cK σ.K v none,σ.L,σ.P,σ.O++[v],σ.ev++[⟨0,v,σ.L v⟩]⟩
def evS(σ:SS)(e:Ev):SS:=⟨σ.K,σ.L,σ.P,σ.O,σ.ev++[e]⟩
def scan1(A:List Arc)(al:Nat->Bool)(pi:Nat->Int)(v:Nat)(σ:SS)(a:Nat):SS:=
 if al a=true then dN pi (evS σ ⟨1,a,0⟩) (A.getD a default).t (σ.L v+(A.getD a default).w) (a::σ.P v)else σ
def lz(A:List Arc)(al:Nat->Bool)(pi:Nat->Int)(v:Nat)(σ:SS):SS:=(outs A Arc.s A.length v).foldl (scan1 A al pi v) σ
def iF(pi:Nat->Int)(s:Nat):SS:=dN pi ⟨fun _=>none,fun _=>0,fun _=>[],[],[]⟩ s 0 []
inductive Ends(A:List Arc)(al:Nat->Bool)(pi:Nat->Int)(to:Nat):SS->Fd->Prop where
 |none {σ:SS}:(∀v,σ.K v=none)->Ends A al pi to σ ⟨FAR,[],σ.ev⟩
 |hit {σ:SS} {k:Int}:Pops σ.K to k->Ends A al pi to σ ⟨σ.L to,(σ.P to).reverse,(cP σ to).ev⟩
 |step {σ:SS} {v:Nat} {k:Int} {r:Fd}:Pops σ.K v k->v≠to->Ends A al pi to (lz A al pi v (cP σ v)) r->Ends A al pi to σ r
theorem Ends.uniq{A:List Arc}{al:Nat->Bool}{pi:Nat->Int}{to:Nat}{σ:SS}{r q:Fd}(h:Ends A al pi to σ r)(g:Ends A al pi to σ q):r=q:=by
 induction h with
 | none d=>
   cases g with
   |none _=>rfl
   |hit a=>have:=a.1;grind
   |step a _ _=>have:=a.1;grind
 | hit a=>
   cases g with
   |none d=>have:=a.1;grind
   |hit _=>rfl
   |step c b _=>exact absurd (c.uniq a).1 b
 | step a b _ e=>
   cases g with
   |none d=>have:=a.1;grind
   |hit c=>exact absurd (a.uniq c).1 b
   | step c _ f=>
     obtain⟨rfl,_⟩:=a.uniq c
     exact e f
section
variable{A:List Arc}{N s:Nat}{al:Nat->Bool}{pi:Nat->Int}{σ:SS}
structure Sv(A:List Arc)(N s:Nat)(al:Nat->Bool)(pi:Nat->Int)(σ:SS):Prop where
 nd:σ.O.Nodup
 lt: ∀v∈σ.O,v<N
 op: ∀v k,σ.K v=some k->v<N/\v∉σ.O/\pi v<(FAR:Int)/\k=σ.L v+pi v
 bd: ∀v,σ.L v<=σ.O.length*cF/\(σ.P v).length<=σ.O.length
 pc: ∀v∈σ.O,pi v<(FAR:Int)
 path: ∀v,(v∈σ.O\/σ.K v≠none)->(v=s/\σ.P v=[]/\σ.L v=0)\/ ∃a,a<A.length/\al a=true/\(A.getD a default).t=v/\(A.getD a default).s∈σ.O/\σ.P v=a::σ.P (A.getD a default).s/\σ.L v=σ.L (A.getD a default).s+(A.getD a default).w
theorem Sv.len(h:Sv A N s al pi σ):σ.O.length<=N:=pL N σ.O h.nd h.lt
theorem Sv.evS(h:Sv A N s al pi σ)(e:Ev):Sv A N s al pi (evS σ e):=⟨h.nd,h.lt,h.op,h.bd,h.pc,h.path⟩
theorem qF(b:s<N):Sv A N s al pi (iF pi s):=by
 unfold iF dN
 have z:Sv A N s al pi ⟨fun _=>none,fun _=>0,fun _=>[],[],[]⟩:=
  ⟨.nil,fun v h=>(by cases h),fun v k h=>(by cases h),fun v=>⟨Xf _,Xf _⟩,fun v h=>(by cases h),fun v h=>h.elim (fun h=>by cases h) (fun h=>absurd rfl h)⟩
 split
 . exact z
 . rename_i a
   simp only [not_or]at a
   refine⟨.nil,fun v h=>(by cases h),fun v k h=>?_,fun v=>⟨?_,?_⟩,fun v h=>(by cases h),fun v h=>?_⟩
   . grind[cK,cV]
   . simp only [cV];split<;>simp
   . simp only [kY];split<;>simp
   . by_cases e:v=s
     . subst e;exact .inl ⟨rfl,by simp [kY],by simp [cV]⟩
     . simp [cK,e]at h
structure lV(σ τ:SS):Prop where
 O:τ.O=σ.O
 L: ∀u∈σ.O,τ.L u=σ.L u
 P: ∀u∈σ.O,τ.P u=σ.P u
theorem lV.refl:lV σ σ:=⟨rfl,fun _ _=>rfl,fun _ _=>rfl⟩
theorem lV.trans{b c:SS}(h:lV σ b)(g:lV b c):lV σ c:=
 ⟨g.O.trans h.O,fun u a=>(g.L u (by rw [h.O];exact a)).trans (h.L u a),fun u a=>(g.P u (by rw [h.O];exact a)).trans (h.P u a)⟩
theorem Sv.reach(h:Sv A N s al pi σ){a lab v:Nat}{p:List Nat}(o:a<A.length)(d:al a=true)(r:(A.getD a default).t=v)(D:v<N)(f:(A.getD a default).s∈σ.O)(t:lab=σ.L (A.getD a default).s+(A.getD a default).w)(w:p=a::σ.P (A.getD a default).s)
 (b1:lab<=σ.O.length*cF) (x:p.length<=σ.O.length):Sv A N s al pi (dN pi σ v lab p)/\lV σ (dN pi σ v lab p):=by
 unfold dN
 split
 . exact⟨h,.refl⟩
 . rename_i j
   simp only [not_or]at j
   obtain⟨y,E,F⟩:=j
   have q: ∀u∈σ.O,u≠v:=fun u c e=>y (by grind)
   refine⟨⟨h.nd,h.lt,fun u k g=>?_,fun u=>⟨?_,?_⟩,h.pc,fun u c=>?_⟩,⟨rfl,fun u c=>by simp [cV,q u c],fun u c=>by simp [kY,q u c]⟩⟩
   . simp only [cK,cV]at g⊢
     split at g
     . grind
     . rename_i e
       rw [if_neg e];exact h.op u k g
   . simp only [cV];split
     . exact b1
     . exact(h.bd u).1
   . simp only [kY];split
     . exact x
     . exact(h.bd u).2
   . have z:cV σ.L v lab (A.getD a default).s=σ.L (A.getD a default).s:=if_neg (q _ f)
     have B:kY σ.P v p (A.getD a default).s=σ.P (A.getD a default).s:=if_neg (q _ f)
     by_cases e:u=v
     . subst e
       refine .inr ⟨a,o,d,r,f,?_,?_⟩
       . show kY σ.P u p u=a::kY σ.P u p (A.getD a default).s
         rw [B,<-w];exact if_pos rfl
       . show cV σ.L u lab u=cV σ.L u lab (A.getD a default).s+(A.getD a default).w
         rw [z,<-t];exact if_pos rfl
     . have i:u∈σ.O\/σ.K u≠none:=by simpa [cK,e]using c
       rcases h.path u i with⟨l,m,n⟩|⟨b,l,m,n,C,G,H⟩
       . grind[kY,cV]
       . refine .inr ⟨b,l,m,n,C,?_,?_⟩
         . simp_all[kY,if_neg]
         simp_all[cV,if_neg]
theorem Sv.close(h:Sv A N s al pi σ){v:Nat}{k:Int}(i:σ.K v=some k):Sv A N s al pi (cP σ v):=by
 obtain⟨x,j,y,z⟩:=h.op v k i
 have l:(σ.O++[v]).length*cF=σ.O.length*cF+cF:=by grind
 refine⟨?_,fun u f=>?_,fun u m f=>?_,fun u=>⟨?_,?_⟩,fun u f=>?_,fun u f=>?_⟩
 . show(σ.O++[v]).Nodup
   rw [List.nodup_append]
   exact⟨h.nd,by simp,fun a B b C e=>j (by grind)⟩
 . rcases List.mem_append.1 f with f|f
   . exact h.lt u f
   grind
 . simp only [cP,cK]at f⊢
   split at f
   . cases f
   . rename_i e
     obtain⟨a,b,c,d⟩:=h.op u m f
     grind
 . show σ.L u<=(σ.O++[v]).length*cF
   rw [l];have:=(h.bd u).1;omega
 . show(σ.P u).length<=(σ.O++[v]).length
   have:=(h.bd u).2;simp;omega
 . rcases List.mem_append.1 f with f|f
   . exact h.pc u f
   grind
 . have g:u∈σ.O\/σ.K u≠none:=by
    by_cases e:u=v
    . grind
    . simpa [cP,cK,e]using f
   rcases h.path u g with n|⟨b,o,p,q,r,t,w⟩
   . exact .inl n
   . exact .inr ⟨b,o,p,q,Xd _ r,t,w⟩
def Room(σ:SS)(v:Nat):Prop:=v∈σ.O/\σ.L v+cF<=σ.O.length*cF/\(σ.P v).length+1<=σ.O.length
theorem Room.keeps{d:SS}{v:Nat}(r:Room σ v)(k:lV σ d):Room d v:=by
 obtain⟨a,b,c⟩:=r
 exact⟨by rw [k.O];exact a,by rw [k.O,k.L v a];exact b,by rw [k.O,k.P v a];exact c⟩
theorem Sv.room(h:Sv A N s al pi σ)(v:Nat):Room (cP σ v) v:=by
 have:=h.bd v
 refine⟨Xe _ (by simp),?_,?_⟩
 . show σ.L v+cF<=(σ.O++[v]).length*cF
   rw [XF,List.length_singleton,Nat.succ_mul];omega
 . show(σ.P v).length+1<=(σ.O++[v]).length
   simp;omega
theorem Sv.scan1(h:Sv A N s al pi σ)(d: ∀a∈A,a.t<N/\a.w<=cF){v a:Nat}(r:Room σ v)(e:a<A.length)(f:(A.getD a default).s=v):Sv A N s al pi (scan1 A al pi v σ a)/\lV σ (scan1 A al pi v σ a):=by
 unfold Ab.scan1
 split
 . rename_i b
   obtain⟨g,l,i⟩:=r
   have j:=d (A.getD a default) (by grind)
   subst f
   obtain⟨k,c⟩:=(h.evS ⟨1,a,0⟩).reach (p:=a::σ.P (A.getD a default).s) (lab:=σ.L (A.getD a default).s+(A.getD a default).w) e b rfl j.1 g rfl rfl (by show _<=σ.O.length*cF;omega) (by show(σ.P _).length+1<=σ.O.length;exact i)
   exact⟨k,⟨c.O,c.L,c.P⟩⟩
 . exact⟨h,.refl⟩
theorem Sv.scanL(d: ∀a∈A,a.t<N/\a.w<=cF){v:Nat}: ∀(l:List Nat) {σ:SS},Sv A N s al pi σ->Room σ v->(∀a∈l,a<A.length/\(A.getD a default).s=v)->Sv A N s al pi (l.foldl (Ab.scan1 A al pi v) σ)/\lV σ (l.foldl (Ab.scan1 A al pi v) σ)
 | [],_,h,_,_=>⟨h,.refl⟩
 | a::l,σ,h,r,c=>by
   obtain⟨f,e⟩:=h.scan1 d r (c a (by simp)).1 (c a (by simp)).2
   obtain⟨g,i⟩:=Sv.scanL d l f (r.keeps e) (fun b j=>c b (by simp [j]))
   exact⟨g,e.trans i⟩
theorem Sv.next(h:Sv A N s al pi σ)(b: ∀a∈A,a.t<N/\a.w<=cF){v:Nat}{k:Int}(c:σ.K v=some k):Sv A N s al pi (lz A al pi v (cP σ v))/\lV (cP σ v) (lz A al pi v (cP σ v)):=
 Sv.scanL b _ (h.close c) (h.room v) (fun _ d=>gQ.1 d)

def InH(A:List Arc)(al:Nat->Bool)(pi:Nat->Int)(a:Nat):Prop:=al a=true/\pi (A.getD a default).s<(FAR:Int)/\pi (A.getD a default).t<(FAR:Int)
instance (a:Nat):Decidable (InH A al pi a):=by unfold InH;infer_instance
def qi(A:List Arc)(al:Nat->Bool)(pi:Nat->Int):List Arc:=((zM A.length).filter fun a=>decide (InH A al pi a)).map fun a=>A.getD a default
theorem xq{a:Arc}:a∈qi A al pi↔ ∃i,i<A.length/\InH A al pi i/\A.getD i default=a:=by
 unfold qi
 grind
def Feas(A:List Arc)(al:Nat->Bool)(pi:Nat->Int):Prop:= ∀i,i<A.length->InH A al pi i->pi (A.getD i default).s<=(A.getD i default).w+pi (A.getD i default).t
theorem Sv.wk(h:Sv A N s al pi σ): ∀(n:Nat) {v:Nat},(σ.P v).length<=n->(v∈σ.O\/σ.K v≠none)->Wk (qi A al pi) s v (σ.L v):=by
 have p: ∀v,(v∈σ.O\/σ.K v≠none)->pi v<(FAR:Int):=fun v b=>b.elim (h.pc v) (fun b=>by
  cases f:σ.K v with
  |none=>grind
  |some k=>exact(h.op v k f).2.2.1)
 intro n
 induction n with
 | zero=>
   intro v c b
   rcases h.path v b with⟨rfl,_,e⟩|⟨a,_,_,_,_,e,_⟩
   . rw [e];exact .nil
   grind
 | succ n g=>
   intro v c b
   rcases h.path v b with⟨rfl,_,e⟩|⟨a,i,j,l,d,m,o⟩
   . grind
   . rw [m]at c
     rw [o]
     exact Wk.snoc' (g (v:=(A.getD a default).s) (by simpa using c) (.inl d)) (xq.2 ⟨a,i,⟨j,h.pc _ d,by grind⟩,rfl⟩) rfl l rfl
structure Fe(A:List Arc)(s:Nat)(al:Nat->Bool)(pi:Nat->Int)(σ:SS)(ex:Nat->Prop):Prop where
 opt: ∀v∈σ.O,∀w,Wk (qi A al pi) s v w->σ.L v<=w
 fr: ∀a,a<A.length->InH A al pi a->(A.getD a default).s∈σ.O-> ¬ex a->(A.getD a default).t∈σ.O\/(σ.K (A.getD a default).t≠none/\σ.L (A.getD a default).t<=σ.L (A.getD a default).s+(A.getD a default).w)
 st:s∈σ.O\/(σ.K s≠none/\σ.L s=0)
theorem Fe.front(f:Fe A s al pi σ (fun _=>False))(h:Sv A N s al pi σ)(j:Feas A al pi){x w:Nat}(k:Wk (qi A al pi) s x w):x∈σ.O\/ ∃y,σ.K y≠none/\(σ.L y:Int)+pi y<=w+pi x:=by
 induction k with
 |nil=>exact f.st.imp (fun h=>h) (fun⟨a,b⟩=>⟨s,a,by rw [b];omega⟩)
 | @snoc w a l m c=>
   obtain⟨i,e,g,rfl⟩:=xq.1 l
   have o:=j i e g
   rcases c with c|⟨y,d,n⟩
   . rcases f.fr i e g c (fun h=>h)with d|⟨d,n⟩
     . exact .inl d
     . have:=f.opt _ c _ m
       grind
   grind
theorem Fe.popped(f:Fe A s al pi σ (fun _=>False))(h:Sv A N s al pi σ)(l:Feas A al pi){v:Nat}{k:Int}(e:Pops σ.K v k):
 (∀w,Wk (qi A al pi) s v w->σ.L v<=w)/\ ∀x w,x∉σ.O->Wk (qi A al pi) s x w->(σ.L v:Int)+pi v<=w+pi x:=by
 have d: ∀x w,x∉σ.O->Wk (qi A al pi) s x w->(σ.L v:Int)+pi v<=w+pi x:=fun x w n g=>by
  rcases f.front h l g with m|⟨y,m,o⟩
  . grind
  . cases i:σ.K y with
    |none=>grind
    | some j=>
      have a:=(h.op y j i).2.2.2
      have b:=(h.op v k e.1).2.2.2
      have c:=e.2 y j i
      omega
 refine⟨fun w g=>?_,d⟩
 have:=d v w (h.op v k e.1).2.1 g
 omega
theorem Fe.close(f:Fe A s al pi σ (fun _=>False))(h:Sv A N s al pi σ)(g:Feas A al pi){v:Nat}{k:Int}(i:Pops σ.K v k):Fe A s al pi (cP σ v) (fun a=>(A.getD a default).s=v):=by
 have j:=(f.popped h g i).1
 refine⟨fun u b=>?_,fun a l m d o=>?_,?_⟩
 . rcases List.mem_append.1 b with b|b
   . exact f.opt u b
   . simp at b;subst b;exact j
 . rcases List.mem_append.1 d with d|d
   . rcases f.fr a l m d (fun h=>h)with c|⟨c,n⟩
     . exact .inl (Xd _ c)
     . by_cases e:(A.getD a default).t=v
       . exact .inl (Xe _ (List.mem_singleton.2 e))
       simp_all[cP,cK,if_neg]
   grind
 . rcases f.st with c|⟨c,n⟩
   . exact .inl (Xd _ c)
   . by_cases e:s=v
     . exact .inl (Xe _ (List.mem_singleton.2 e))
     simp_all[cP,cK,if_neg]
theorem Fe.reach{o ex':Nat->Prop}(f:Fe A s al pi σ o){a v lab:Nat}{p:List Nat}(r:(A.getD a default).t=v)(z:lab=σ.L (A.getD a default).s+(A.getD a default).w)(m: ∀b,¬ex' b-> ¬o b\/(b=a)):Fe A s al pi (dN pi σ v lab p) ex':=by
 unfold dN
 split
 . rename_i g
   refine⟨f.opt,fun b l i j d=>?_,f.st⟩
   rcases m b d with c|rfl
   . exact f.fr b l i j c
   . rw [r]
     rcases g with g|g|⟨c,h⟩
     . exact .inl g
     . have:=i.2.2;grind
     grind
 . rename_i g
   simp only [not_or]at g
   obtain⟨t,B,w⟩:=g
   have x:=fun c h=>w ⟨c,h⟩
   have q: ∀u∈σ.O,u≠v:=fun u n e=>t (by grind)
   refine⟨fun u n=>?_,fun b l i j d=>?_,?_⟩
   . simp only [cV,if_neg (q u n)];exact f.opt u n
   . simp only [cV,cK,if_neg (q _ j)]
     by_cases e:(A.getD b default).t=v
     . right
       simp only [e,if_true]
       refine⟨by nofun,?_⟩
       rcases m b d with c|rfl
       . rcases f.fr b l i j c with h|⟨h,y⟩
         . grind
         . rw [e]at h y
           have: ¬σ.L v<=lab:=x (by cases C:σ.K v with|none=>grind|some k=>rfl)
           omega
       . omega
     . simp only [if_neg e]
       rcases m b d with c|rfl
       . exact f.fr b l i j c
       omega
   . rcases f.st with c|⟨c,h⟩
     . exact .inl c
     . by_cases e:s=v
       . simp_all
       simp_all[cK,if_neg,cV]
theorem Fe.exm{b ex':Nat->Prop}(f:Fe A s al pi σ b)(h: ∀a,a<A.length->b a->ex' a):Fe A s al pi σ ex':=
 ⟨f.opt,fun a c d e g=>f.fr a c d e (fun i=>g (h a c i)),f.st⟩
theorem Fe.scan1{e ex':Nat->Prop}(f:Fe A s al pi σ e){a v:Nat}(j:(A.getD a default).s=v)(g: ∀b,¬ex' b-> ¬e b\/(b=a)):Fe A s al pi (scan1 A al pi v σ a) ex':=by
 unfold Ab.scan1
 split
 . subst j
   exact Fe.reach (σ:=evS σ ⟨1,a,0⟩) ⟨f.opt,f.fr,f.st⟩ rfl rfl g
 . rename_i c
   refine⟨f.opt,fun b k i l d=>?_,f.st⟩
   rcases g b d with h|rfl
   . exact f.fr b k i l h
   . exact absurd i.1 c
theorem Fe.scanL{v:Nat}: ∀(l:List Nat) {σ:SS},Fe A s al pi σ (· ∈l)->(∀a∈l,(A.getD a default).s=v)->Fe A s al pi (l.foldl (Ab.scan1 A al pi v) σ) (fun _=>False)
 | [],_,f,_=>f.exm (fun a _ h=>by cases h)
 |a::l,σ,f,c=>Fe.scanL l (f.scan1 (a:=a) (c a (by simp)) (fun b d=>by grind)) (fun b d=>c b (by simp [d]))
theorem Fe.next(f:Fe A s al pi σ (fun _=>False))(h:Sv A N s al pi σ)(c:Feas A al pi){v:Nat}{k:Int}(d:Pops σ.K v k):Fe A s al pi (lz A al pi v (cP σ v)) (fun _=>False):=
 Fe.scanL _ ((f.close h c d).exm fun a b e=>gQ.2 ⟨b,e⟩) (fun a b=>(gQ.1 b).2)
theorem Wk.mono{B C:List Arc}(b: ∀a∈B,a∈C){v w:Nat}(h:Wk B s v w):Wk C s v w:=by
 induction h with
 |nil=>exact .nil
 |snoc c _ d=>exact .snoc (b _ c) d
theorem IsD.congr{B C:List Arc}(d: ∀a,a∈B↔a∈C){v x:Nat}(h:IsD B s v x):IsD C s v x:=by
 rcases h with⟨a,b,c⟩|⟨a,b⟩
 . exact .inl ⟨a,b.mono fun a=>(d a).1,fun w e=>c w (e.mono fun a=>(d a).2)⟩
 . exact .inr ⟨a,fun w e=>b w (e.mono fun a=>(d a).2)⟩
end
end Go.Ab

end
section
namespace Go.Ab
inductive kw(A:List Arc)(s:Nat):List Nat->Nat->Nat->Prop where
 |nil:kw A s [] s 0
 |snoc {l:List Nat} {w a:Nat}:kw A s l (A.getD a default).s w->a<A.length->kw A s (l++[a]) (A.getD a default).t (w+(A.getD a default).w)
def kz(A:List Arc)(s:Nat)(l:List Nat)(i:Nat):Nat:=if i=0 then s else(A.getD (l.getD (i-1) 0) default).t
def sumA(A:List Arc)(l:List Nat)(k:Nat):Nat:=((l.take k).map fun a=>(A.getD a default).w).sum
theorem tL{l:List Nat}{a i:Nat}(h:i<l.length):(l++[a]).getD i 0=l.getD i 0:=by
 rw [zO,zO,Xu h]
theorem tS{l:List Nat}{a:Nat}:(l++[a]).getD l.length 0=a:=by simp [zO]
theorem yw{A:List Arc}{s a i:Nat}{l:List Nat}(h:i<=l.length):kz A s (l++[a]) i=kz A s l i:=by
 unfold kz
 split
 . rfl
 . rw [tL (by omega)]
theorem kw.at{A:List Arc}{s t w:Nat}{l:List Nat}(h:kw A s l t w):(∀i,i<l.length->l.getD i 0<A.length/\(A.getD (l.getD i 0) default).s=kz A s l i)/\kz A s l l.length=t/\sumA A l l.length=w:=by
 induction h with
 |nil=>exact⟨fun i c=>absurd c (Nat.not_lt_zero _),rfl,rfl⟩
 | @snoc l w a _ d e=>
   obtain⟨f,g,b⟩:=e
   have j:(l++[a]).length=l.length+1:=by simp
   refine⟨fun i c=>?_,?_,?_⟩
   . rcases Nat.lt_or_ge i l.length with h|h
     . rw [tL h,yw (Nat.le_of_lt h)];exact f i h
     . have:i=l.length:=by omega
       subst this
       rw [tS,yw (Xy _)]
       exact⟨d,g.symm⟩
   . rw [j]
     unfold kz
     rw [if_neg (by omega),XG,tS]
   . unfold sumA at b⊢
     rw [Xp]at b⊢
     rw [XS,List.sum_append,b]
     rfl
theorem sumA_succ{A:List Arc}{l:List Nat}{k:Nat}(h:k<l.length):sumA A l (k+1)=sumA A l k+(A.getD (l.getD k 0) default).w:=by
 have e:l.getD k 0=l[k]:=by rw [zO,Xb h];rfl
 unfold sumA
 rw [e,Xh h,XS,List.sum_append]
 simp
section
variable{A:List Arc}{N s:Nat}{al:Nat->Bool}{pi:Nat->Int}{σ:SS}
theorem Sv.pathA(h:Sv A N s al pi σ): ∀(n:Nat) {v:Nat},(σ.P v).length<=n->(v∈σ.O\/σ.K v≠none)->kw A s (σ.P v).reverse v (σ.L v):=by
 intro n
 induction n with
 | zero=>
   intro v b c
   rcases h.path v c with⟨rfl,d,e⟩|⟨a,_,_,_,_,f,_⟩
   . rw [d,e];exact .nil
   . rw [f]at b;simp at b
 | succ n g=>
   intro v b c
   rcases h.path v c with⟨rfl,d,e⟩|⟨a,i,_,j,k,f,l⟩
   . rw [d,e];exact .nil
   . rw [f]at b⊢
     rw [l,List.reverse_cons,<-j]
     exact .snoc (g (by rw [XO]at b;omega) (.inl k)) i
theorem ends_path{to:Nat}{r:Fd}(c: ∀a∈A,a.t<N/\a.w<=cF)(d:Ends A al pi to σ r):Sv A N s al pi σ->r.dist<FAR->kw A s r.arcs to r.dist:=by
 induction d with
 |none g=>intro _ h;exact absurd h (Nat.lt_irrefl _)
 | @hit σ k b=>intro h _;exact h.pathA _ (Xy _) (.inr (by rw [b.1];nofun))
 | @step σ v k r b e _ f=>intro h;exact f (h.next c b.1).1
end
end Go.Ab

end
section
namespace Go.Ab
open Go.Proofs
set_option maxRecDepth 10000
def Tryz.Ff:=aj t1<|aj t2<|aj t3<|aj t4<|aj t5<|aj t6<|aj t24<|aj t28<|aj t32<|aj t34<|aj t47<|aj t50<|aj Z9<|aj t137<|aj t141<|aj Z1<|aj t193<|aj t194<|aj Z20<|aj Z7<|Z11
def labC(N:Nat)(L:Nat->Nat):List Value:=(zM N).map fun v=>.int .i64 (L v:Nat)
def byI:List Nat->Int
 | []=> -1
 |a::_=>(a:Nat)
def byC(N:Nat)(P:Nat->List Nat):List Value:=(zM N).map fun v=>.int .i64 (byI (P v))
def clC(N:Nat)(O:List Nat):List Value:=(zM N).map fun v=>.bool (decide (v∈O))
theorem tq{N v:Nat}{L:Nat->Nat}(h:v<N):(labC N L)[v]? =some (.int .i64 (L v:Nat)):=ju (F:=fun v=>Value.int .i64 ((L v:Nat):Int)) h
theorem byC_at{N v:Nat}{P:Nat->List Nat}(h:v<N):(byC N P)[v]? =some (.int .i64 (byI (P v))):=ju (F:=fun v=>Value.int .i64 (byI (P v))) h
theorem clC_at{N v:Nat}{O:List Nat}(h:v<N):(clC N O)[v]? =some (.bool (decide (v∈O))):=ju (F:=fun v=>Value.bool (decide (v∈O))) h
theorem Ag{N:Nat}{L:Nat->Nat}:(labC N L).length=N:=by simp [labC]
theorem byC_len{N:Nat}{P:Nat->List Nat}:(byC N P).length=N:=by simp [byC]
theorem clC_len{N:Nat}{O:List Nat}:(clC N O).length=N:=by simp [clC]
theorem labC_set{N v x:Nat}{L:Nat->Nat}:(labC N L).set v (.int .i64 (x:Nat))=labC N (cV L v x):=by
 have:=iX (N:=N) (k:=v) (F:=fun v=>Value.int .i64 ((L v:Nat):Int)) (F':=fun u=>Value.int .i64 ((cV L v x u:Nat):Int)) (fun i _ a=>by simp [cV,a])
 unfold labC
 rw [<-this];simp [cV]
theorem byC_set{N v:Nat}{P:Nat->List Nat}{p:List Nat}:(byC N P).set v (.int .i64 (byI p))=byC N (kY P v p):=by
 have:=iX (N:=N) (k:=v) (F:=fun v=>Value.int .i64 (byI (P v))) (F':=fun u=>Value.int .i64 (byI (kY P v p u))) (fun i _ a=>by simp [kY,a])
 unfold byC
 rw [<-this];simp [kY]
theorem clC_set{N v:Nat}{O:List Nat}:(clC N O).set v (.bool true)=clC N (O++[v]):=by
 have:=iX (N:=N) (k:=v) (F:=fun v=>Value.bool (decide (v∈O))) (F':=fun u=>Value.bool (decide (u∈O++[v]))) (fun i _ a=>by simp [a])
 unfold clC
 rw [<-this];simp
def srL(f c d e N:Nat)(g p a b vE:Value)(σ:SS):List (Nat×Ob):=
 [(f,.row [g,p,.slice (some ⟨c,0,none⟩) N N,.slice (some ⟨d,0,none⟩) N N,.slice (some ⟨e,0,none⟩) N N,a,b,vE] 1),(c,.row (labC N σ.L) 1),(d,.row (byC N σ.P) 1),(e,.row (clC N σ.O) 1)]
def srG(vE:Value)(σ:SS):List GL:=[(vE,4,σ.ev.flatMap ie)]
def fT(h:Hp)(B:List Nat)(e:Nat)(f a b:Value)(N:Nat)(σ:SS):Prop:=
 ∃g i j p F d,B=keys (srL e g i j N f (ptrTo p) a b d σ) (srG d σ)++F/\(∀q∈srL e g i j N f (ptrTo p) a b d σ,Has h q.1 q.2)/\fJ h (d,4,σ.ev.flatMap ie)/\(keys (srL e g i j N f (ptrTo p) a b d σ) (srG d σ)).Nodup/\c6 h F (ptrTo p) N σ.K/\ ∀c∈F,c∉keys (srL e g i j N f (ptrTo p) a b d σ) (srG d σ)
theorem St.ofHas{M:Nat->Prop}{h:Hp}{L:List (Nat×Ob)}{G:List GL}(e:h.t.Sized h.n)(f: ∀q∈L,Has h q.1 q.2)(g: ∀p∈G,fJ h p)(i:(keys L G).Nodup)(d: ∀c∈keys L G,M c):St M h h L G:=
 ⟨Mo.refl e,fun p a=>⟨.inr (d _ (je a)),f p a⟩,fun p a=>⟨g p a,fun b j=>.inr (d _ (gp a j))⟩,i⟩
theorem fT.mo{M:Nat->Prop}{h f:Hp}{B:List Nat}{i N:Nat}{j a c:Value}{σ:SS}(r:fT h B i j a c N σ)(g:Mo M h f)(e: ∀b∈B,¬M b):fT f B i j a c N σ:=by
 obtain⟨n,o,s,p,F,k,rfl,t,l,u,v,w⟩:=r
 refine⟨n,o,s,p,F,k,rfl,fun q m=>g.has (t q m) (e _ (Xd _ (je m))),l.of_get fun b d=>g.get b (l.lt g.ok0 d) (e b (Xd _ (gp (p:=(k,4,σ.ev.flatMap ie)) m0 d))),u,v.mo g (fun b d=>e b (Xe _ d)),w⟩
theorem fT.gr{h c:Hp}{B:List Nat}{d N:Nat}{e a b:Value}{σ:SS}(r:fT h B d e a b N σ)(g:Gr h c):fT c B d e a b N σ:=r.mo (M:=NoM) g.fr (fun _ _ h=>h)
theorem fT.lt{h:Hp}(e:h.t.Sized h.n){B:List Nat}{f N:Nat}{g b d:Value}{σ:SS}(r:fT h B f g b d N σ): ∀c∈B,c<h.n:=by
 obtain⟨n,o,q,p,F,s,rfl,i,j,k,l,t⟩:=r
 intro c a
 rcases List.mem_append.1 a with a|a
 . exact(St.ofHas (M:=fun _=>True) e i (fun p m=>by cases m with|head=>exact j|tail _ h=>cases h) k (fun _ _=>trivial)).key_lt a
 . exact l.lt e c a
theorem Gr.mo'{hq h a:Hp}{B:List Nat}(g:Gr hq h)(f:Mo (· ∈B) h a)(hB: ∀c∈B,hq.n<=c):Gr hq a:=((g.fr (M:=NoM)).trans f (fun i b=>.inr (hB i b))).gr
def PiF(E:Env)(hq:Hp)(g:FuncId)(a N:Nat)(pi:Nat->Int):Prop:= ∀h,Gr hq h-> ∀v,v<N->aM E g [.int .i64 (v:Nat),ptrTo a] h (.int .i64 (pi v))
def AlF(E:Env)(hq:Hp)(g:FuncId)(b n:Nat)(al:Nat->Bool):Prop:= ∀h,Gr hq h-> ∀a,a<n->aM E g [.int .i64 (a:Nat),ptrTo b] h (.bool (al a))
theorem xM {hq h0:Hp} (gq:Gr hq h0) {B:List Nat} {d N x v lab:Nat} {p:List Nat} {y:FuncId} {z j:Value} {σ:SS} {pi:Nat->Int} (R:fT h0 B d z j (.func (.func y) #[] #[ptrTo x]) N σ) (ad:PiF zL hq y x N pi) (hN:N<=12) (l:v<N) (hl:lab<=12*cF)
 (hp: -(FAR:Int)<=pi v) (hk: ∀k,σ.K v=some k->k=σ.L v+pi v):
 Ret zL 126 [ptrTo d,.int .i64 (v:Nat),.int .i64 (lab:Nat),.int .i64 (byI p)] h0 fun _ A=>Mo (· ∈B) h0 A/\ ∃G,fT A G d z j (.func (.func y) #[] #[ptrTo x]) N (dN pi σ v lab p)/\ ∀c∈G,c∈B\/h0.n<=c:=by
 have ok:=gq.ok
 have R0:=R
 obtain⟨t,w,C,I,F,u,rfl,hL,hG,nd,H,hF⟩:=R
 have S:=St.ofHas (M:=fun c=>c∈keys (srL d t w C N z (ptrTo I) j (.func (.func y) #[] #[ptrTo x]) u σ) (srG u σ)++F) ok hL (fun p hp=>by cases hp with|head=>exact hG|tail _ h=>cases h) nd (fun c a=>Xd _ a)
 have fr:=nL
 have wm:=pj
 have m:dN pi σ v lab p=σ-> ∀h,Gr h0 h->Mo (· ∈keys (srL d t w C N z (ptrTo I) j (.func (.func y) #[] #[ptrTo x]) u σ) (srG u σ)++F) h0 h/\ ∃G,fT h G d z j (.func (.func y) #[] #[ptrTo x]) N (dN pi σ v lab p)/\ ∀c∈G,c∈keys (srL d t w C N z (ptrTo I) j (.func (.func y) #[] #[ptrTo x]) u σ) (srG u σ)++F\/h0.n<=c:=
  fun e h g=>⟨g.fr,_,by rw [e];exact R0.gr g,fun c a=>.inl a⟩
 generalize J:keys (srL d t w C N z (ptrTo I) j (.func (.func y) #[] #[ptrTo x]) u σ) (srG u σ)++F=BB at S m
 have W: ∀c∈F,c∈BB\/h0.n<=c:=fun c a=>.inl (by rw [<-J];exact Xe _ a)
 unfold srL srG at S
 have lF:=H.lt ok
 have ll:=fun {b} hb=>S.key_lt (b:=b) hb
 refine ab (n:=86) (rs:=[]) rfl Tryz.e126 rfl rfl rfl (lbt rfl) ?_
 simp only [BS,LB,Nat.reduceLT,Nat.reduceEqDiff,Ff,S.ld (b:=d) (o:=6) m0 rfl]
 refine am (ad _ gq v l) ?_;intro h g;replace S:=S.call g;replace H:=H.gr g
 simp only [BS,LB,Nat.reduceLT,Nat.reduceEqDiff,Ff,S.ld (b:=d) (o:=1) m0 rfl]
 refine am (vg S.ok H) ?_;intro A g';replace S:=S.call g';replace H:=H.gr g';replace g:=g.trans g';clear g' h
 have n0:=g.n
 have K:=(S.row (b:=C) m3).load1 (clC_at (O:=σ.O) l)
 have lL:=(S.row (b:=t) m1).load1 (tq (L:=σ.L) l)
 by_cases hO:v∈σ.O
 . have U:decide (v∈σ.O)=true:=decide_eq_true hO
   simp only [BS,LB,Nat.reduceLT,Nat.reduceEqDiff,Ff,l,K,U,S.ld (b:=d) (o:=4) m0 rfl,S.ld (b:=d) (o:=2) m0 rfl]
   exact m (by unfold dN;rw [if_pos (.inl hO)]) _ g
 . have U:decide (v∈σ.O)=false:=decide_eq_false hO
   by_cases X:(FAR:Int)<=pi v
   . have Y:(72057594037927936:Int)<=pi v:=by omega
     simp only [BS,LB,Nat.reduceLT,Nat.reduceEqDiff,Ff,l,K,U,Y,S.ld (b:=d) (o:=4) m0 rfl,S.ld (b:=d) (o:=2) m0 rfl]
     exact m (by unfold dN;rw [if_pos (.inr (.inl X))]) _ g
   . have Y: ¬(72057594037927936:Int)<=pi v:=by omega
     have wl:an .i64 ((lab:Int)+pi v)=(lab:Int)+pi v:=by rw [wrap64]<;>omega
     have Z: ¬((σ.K v).isSome=true/\σ.L v<=lab)-> ∀(A:Hp) (s:List Nat),St (· ∈BB) h0 A [(d,.row [z,ptrTo I,.slice (some ⟨t,0,none⟩) N N,.slice (some ⟨w,0,none⟩) N N,.slice (some ⟨C,0,none⟩) N N,j,.func (.func y) #[] #[ptrTo x],u] 1),(t,.row ((labC N σ.L).set v (.int .i64 (lab:Nat))) 1),(w,.row ((byC N σ.P).set v (.int .i64 (byI p))) 1),(C,.row (clC N σ.O) 1)] [(u,4,σ.ev.flatMap ie)]->
      c6 A s (ptrTo I) N (cK σ.K v (some ((lab:Int)+pi v)))->(∀c∈s,c∈F\/h0.n<=c)->Mo (· ∈BB) h0 A/\ ∃G,fT A G d z j (.func (.func y) #[] #[ptrTo x]) N (dN pi σ v lab p)/\ ∀c∈G,c∈BB\/h0.n<=c:=by
      intro a A s T H' f
      rw [labC_set,byC_set]at T
      refine⟨T.fr,keys (srL d t w C N z (ptrTo I) j (.func (.func y) #[] #[ptrTo x]) u σ) (srG u σ)++s,?_,fun c a=>?_⟩
      . unfold dN
        rw [if_neg (by simp only [not_or];exact⟨hO,X,a⟩)]
        refine⟨t,w,C,I,s,u,rfl,fun q hq=>(T.own q hq).2,(T.gown _ m0).1,T.apart,H',fun c a hm=>?_⟩
        rcases f c a with D|D
        . exact hF c D hm
        . have:=ll (b:=c) hm;omega
      . rcases List.mem_append.1 a with a|a
        . exact .inl (by rw [<-J];exact Xd _ a)
        . rcases f c a with D|D
          . exact .inl (by rw [<-J];exact Xe _ D)
          . exact .inr D
     have E: ∀s:List Nat,(∀c∈s,c∈F\/h0.n<=c)-> ∀c∈s,¬(c=t)/\ ¬(c=w):=fun s h c a=>by
      rcases h c a with D|D
      . have:=hF c D
        simp [srL,keys]at this
        exact⟨this.2.1,this.2.2.1⟩
      . have h2:=ll (b:=t) (by simp [keys])
        have h3:=ll (b:=w) (by simp [keys])
        exact⟨fun e=>by omega,fun e=>by omega⟩
     have ap:=S.apart
     have n1:d≠t:=fun e=>by subst e;simp [keys]at ap
     have n2:d≠w:=fun e=>by subst e;simp [keys]at ap
     have n3:t≠w:=fun e=>by subst e;simp [keys]at ap
     clear ap
     cases V:σ.K v with
     | none=>
       simp only [BS,LB,Nat.reduceLT,Nat.reduceEqDiff,Ff,l,K,U,Y,Option.getD_none,Option.isSome_none,wl,S.ld (b:=d) (o:=4) m0 rfl,S.ld (b:=d) (o:=2) m0 rfl,S.ld (b:=d) (o:=1) m0 rfl]
       refine step_ret (qu S.ok H l (by omega) V) ?_
       rintro r h2 ⟨f2,s,H2,f⟩
       replace S:=S.stepF f2 (fun c a=>⟨W c a,hF c a⟩)
       replace f: ∀c∈s,c∈F\/h0.n<=c:=fun c a=>(f c a).imp (fun h=>h) (fun h=>Xc n0 h)
       clear K lL
       simp only [BS]
       refine au (aC rfl) (q:=0) (ps:=[]) (by kernel_rfl) ?_
       simp only [BS,LB,cls,Nat.reduceLT,Nat.reduceEqDiff,Nat.reduceAdd,Nat.reducePow,Nat.reduceDiv,Nat.reduceMod,Nat.reduceLeDiff,Ff,l,S.ld (b:=d) (o:=2) m0 rfl,S.ld (b:=d) (o:=3) m0 rfl]
       refine dw (ay S (i:=1) rfl Tryz.t2.2.2.1 aX (by rw [Ag];exact l) ono) ?_
       clear S;rintro h3 ⟨S,P⟩
       simp only [LC]at S
       simp only [BS,LB,cls,Nat.reduceLT,Nat.reduceEqDiff,Nat.reduceAdd,Nat.reducePow,Nat.reduceDiv,Nat.reduceMod,Nat.reduceLeDiff,Ff,l]
       refine dw (ay S (i:=2) rfl Tryz.t3.2.2.1 aX (by rw [byC_len];exact l) ono) ?_
       clear S;rintro h4 ⟨S,Q⟩
       simp only [LC]at S
       simp only [BS,LB,Nat.reduceAdd]
       exact Z (by rw [V];simp) _ s S ((H2.mo P (fun c a=>(E s f c a).1)).mo Q (fun c a=>(E s f c a).2)) f
     | some k=>
       have ek:=hk k V
       by_cases hle:σ.L v<=lab
       . have c2:(σ.L v:Int)<=(lab:Int):=by omega
         simp only [BS,LB,Nat.reduceLT,Nat.reduceEqDiff,Ff,l,K,U,lL,Y,Option.getD_some,c2,S.ld (b:=d) (o:=4) m0 rfl,S.ld (b:=d) (o:=2) m0 rfl]
         exact m (by unfold dN;rw [if_pos (.inr (.inr ⟨by rw [V];rfl,hle⟩))]) _ g
       . have c2: ¬(σ.L v:Int)<=(lab:Int):=by omega
         simp only [BS,LB,Nat.reduceLT,Nat.reduceEqDiff,Ff,l,K,U,lL,Y,Option.getD_some,c2,wl,S.ld (b:=d) (o:=4) m0 rfl,S.ld (b:=d) (o:=2) m0 rfl,S.ld (b:=d) (o:=1) m0 rfl]
         refine step_ret (sC S.ok H (by omega) V (k:=(lab:Int)+pi v) (by omega)) ?_
         rintro r h2 ⟨f2,H2⟩
         replace S:=S.stepF f2 (fun c a=>⟨W c a,hF c a⟩)
         have f: ∀c∈F,c∈F\/h0.n<=c:=fun c a=>.inl a
         clear K lL
         simp only [BS]
         refine au (aC rfl) (q:=0) (ps:=[]) (by kernel_rfl) ?_
         simp only [BS,LB,cls,Nat.reduceLT,Nat.reduceEqDiff,Nat.reduceAdd,Nat.reducePow,Nat.reduceDiv,Nat.reduceMod,Nat.reduceLeDiff,Ff,l,S.ld (b:=d) (o:=2) m0 rfl,S.ld (b:=d) (o:=3) m0 rfl]
         refine dw (ay S (i:=1) rfl Tryz.t2.2.2.1 aX (by rw [Ag];exact l) ono) ?_
         clear S;rintro h3 ⟨S,P⟩
         simp only [LC]at S
         simp only [BS,LB,cls,Nat.reduceLT,Nat.reduceEqDiff,Nat.reduceAdd,Nat.reducePow,Nat.reduceDiv,Nat.reduceMod,Nat.reduceLeDiff,Ff,l]
         refine dw (ay S (i:=2) rfl Tryz.t3.2.2.1 aX (by rw [byC_len];exact l) ono) ?_
         clear S;rintro h4 ⟨S,Q⟩
         simp only [LC]at S
         simp only [BS,LB,Nat.reduceAdd]
         exact Z (by rw [V];simp;omega) _ F S ((H2.mo P (fun c a=>(E F f c a).1)).mo Q (fun c a=>(E F f c a).2)) f
def Tryz.Fm:=aj t1<|aj t2<|aj t3<|aj t4<|aj t5<|aj t6<|aj Z3<|aj t24<|aj t28<|aj Z0<|aj t32<|aj t34<|aj t50<|aj Z9<|aj Z2<|aj t137<|aj t141<|aj t164<|aj Z1<|aj t193<|aj t194<|aj Z20<|Z11
theorem fT.close{M:Nat->Prop}{h0 h:Hp}{e f g i d N:Nat}{F:List Nat}{j a b vE:Value}{σ:SS}(S:St M h0 h (srL e f g i N j (ptrTo d) a b vE σ) (srG vE σ))(H:c6 h F (ptrTo d) N σ.K)(k: ∀c∈F,c∉keys (srL e f g i N j (ptrTo d) a b vE σ) (srG vE σ)):
 fT h (keys (srL e f g i N j (ptrTo d) a b vE σ) (srG vE σ)++F) e j a b N σ:=
 ⟨f,g,i,d,F,vE,rfl,fun q l=>(S.own q l).2,(S.gown _ m0).1,S.apart,H,k⟩
theorem fT.open{h:Hp}(k:h.t.Sized h.n){B:List Nat}{i N:Nat}{j a b:Value}{σ:SS}(r:fT h B i j a b N σ): ∃e f g d F vE,B=keys (srL i e f g N j (ptrTo d) a b vE σ) (srG vE σ)++F/\St (· ∈B) h h (srL i e f g N j (ptrTo d) a b vE σ) (srG vE σ)/\c6 h F (ptrTo d) N σ.K/\ ∀c∈F,c∉keys (srL i e f g N j (ptrTo d) a b vE σ) (srG vE σ):=by
 obtain⟨e,f,g,d,F,vE,rfl,l,m,n,o,q⟩:=r
 exact⟨e,f,g,d,F,vE,rfl,St.ofHas k l (fun p s=>by cases s with|head=>exact m|tail _ h=>cases h) n (fun c t=>Xd _ t),o,q⟩
theorem yF(pi:Nat->Int)(σ:SS)(v lab:Nat)(p:List Nat):(dN pi σ v lab p).ev=σ.ev:=by
 unfold dN;split<;>rfl
theorem yM(A:List Arc)(al:Nat->Bool)(pi:Nat->Int)(v:Nat)(σ:SS)(a:Nat):(scan1 A al pi v σ a).ev.length<=σ.ev.length+1:=by
 unfold scan1
 split
 . rw [yF];simp [evS]
 . omega
theorem sscan_ok {hq h0:Hp} (bm:hq.t.Sized hq.n) (gq:Gr hq h0) {d:Gra} (z:Good d) {nb E:Nat} (hn:aS hq nb (ptrTo E) d) {B:List Nat} {y u v s:Nat} {K N:FuncId} {σ:SS} {al:Nat->Bool} {pi:Nat->Int} (R:fT h0 B y (ptrTo E) (.func (.func K) #[] #[ptrTo u]) (.func (.func N) #[] #[ptrTo u]) d.nodes σ) (hB: ∀c∈B,hq.n<=c) (a1:AlF zL hq K u d.arcs.length al) (a2:PiF zL hq N u d.nodes pi) (hp: ∀v,v<d.nodes-> -(FAR:Int)<=pi v)
 (hv:v<d.nodes) (sv:Sv d.arcs d.nodes s al pi σ) (rm:Room σ v) (he:σ.ev.length<=10000):
 Ret zL 131 [ptrTo y,.int .i64 (v:Nat)] h0 fun _ h'=>Mo (· ∈B) h0 h'/\ ∃A,fT h' A y (ptrTo E) (.func (.func K) #[] #[ptrTo u]) (.func (.func N) #[] #[ptrTo u]) d.nodes (lz d.arcs al pi v σ)/\ ∀c∈A,c∈B\/h0.n<=c:=by
 have ok:=gq.ok
 have n1:=z.n1
 have n2:=z.n2
 have wm:=pj
 have hA: ∀a∈d.arcs,a.t<d.nodes/\a.w<=cF:=fun a G=>⟨(z.arcs a G).2.1,(z.arcs a G).2.2⟩
 have l0:h0.load y 0 1=some [ptrTo E]:=by
  obtain⟨U,W,X,Y,F,vE,rfl,D,_⟩:=R
  exact Row.load1 (show Row h0 y _ 1 from D _ m0) (o:=0) rfl
 have S:=Si ok
 refine ab (n:=62) (rs:=[]) rfl Tryz.e131 rfl rfl rfl (lbt rfl) ?_
 simp only [BS,LB,Nat.reduceLT,Nat.reduceEqDiff,Fm,l0]
 refine step_ret (xe S.ok (hn.gr gq) (by have:=z.many;omega) hv) ?_
 rintro vl D ⟨g,sl,r⟩
 have lB:=R.lt ok
 have R1:=R.gr g
 have a3:=g.ok
 have ol:=kT d.arcs Arc.s d.arcs.length v
 have bf:=z.many
 have bo:=g.n
 simp only [BS,LB,Nat.reduceLT,Nat.reduceEqDiff,Fm,sl.lenq]
 refine aO (fun(i:Nat) V h=>i<=(outs d.arcs Arc.s d.arcs.length v).length/\ ∃A,Mo (· ∈B) D h/\fT h A y (ptrTo E) (.func (.func K) #[] #[ptrTo u]) (.func (.func N) #[] #[ptrTo u]) d.nodes (((outs d.arcs Arc.s d.arcs.length v).take i).foldl (scan1 d.arcs al pi v) σ)/\(∀c∈A,c∈B\/D.n<=c)/\
  V 0=ptrTo y/\V 1=.int .i64 (v:Nat)/\V 13=vl/\V 14=.int .i64 ((outs d.arcs Arc.s d.arcs.length v).length:Nat)/\V 15=.int .i64 i) (fun i=>(outs d.arcs Arc.s d.arcs.length v).length-i) ?_ 0 _ _ ?_
 . clear S l0
   intro i ih V hS ⟨hi,A,f,R',hB',r0,r1,r13,r14,r15⟩
   by_cases hlt:i<(outs d.arcs Arc.s d.arcs.length v).length
   . have a4: ∀c∈A,hq.n<=c:=fun c r=>(hB' c r).elim (hB c) (fun h=>by have:=gq.n;omega)
     have gh:Gr hq hS:=(gq.trans g).mo' f hB
     have a5:=sl.mo f (fun b hb O=>by have:=r b hb;have:=lB b O;omega)
     obtain⟨c,o,Z,ad⟩:=a5.ix (kd:=.i64) cZ hlt
     have O:=gQ.1 (Xo hlt)
     have w:an .i64 ((i:Int)+1)=((i+1:Nat):Int):=by rw [wrap64]<;>omega
     have a6: ∀a∈(outs d.arcs Arc.s d.arcs.length v).take i,a<d.arcs.length/\(d.arcs.getD a default).s=v:=fun a G=>gQ.1 (List.mem_of_mem_take G)
     obtain⟨Q,ki⟩:=Sv.scanL hA _ sv rm a6
     have af:=rm.keeps ki
     have a7:(((outs d.arcs Arc.s d.arcs.length v).take i).foldl (scan1 d.arcs al pi v) σ).ev.length<=10000+i:=by
      have: ∀(l:List Nat) (σ:SS),(l.foldl (scan1 d.arcs al pi v) σ).ev.length<=σ.ev.length+l.length:=by
       intro l
       induction l with
       |nil=>intro σ;simp
       |cons a l ih=>intro σ;have D:=ih (scan1 d.arcs al pi v σ a);have h2:=yM d.arcs al pi v σ a;simp only [XC,XO];omega
      have D:=this ((outs d.arcs Arc.s d.arcs.length v).take i) σ
      rw [List.length_take]at D
      omega
     have tk:(outs d.arcs Arc.s d.arcs.length v).take (i+1)=(outs d.arcs Arc.s d.arcs.length v).take i++[(outs d.arcs Arc.s d.arcs.length v)[i]]:=by rw [List.take_add_one,Xb hlt];rfl
     have I:((outs d.arcs Arc.s d.arcs.length v).take (i+1)).foldl (scan1 d.arcs al pi v) σ=scan1 d.arcs al pi v (((outs d.arcs Arc.s d.arcs.length v).take i).foldl (scan1 d.arcs al pi v) σ) (outs d.arcs Arc.s d.arcs.length v)[i]:=by rw [tk,List.foldl_append];rfl
     generalize(((outs d.arcs Arc.s d.arcs.length v).take i).foldl (scan1 d.arcs al pi v) σ)=t at R' Q ki af a7 I
     generalize(outs d.arcs Arc.s d.arcs.length v)[i]=a at O ad I
     obtain⟨G,bq⟩:=O
     obtain⟨U,W,X,Y,F,vE,T,S,H,hF⟩:=R'.open f.ok
     have bt:=R'.lt f.ok
     have J: ∀c∈keys (srL y U W X d.nodes (ptrTo E) (ptrTo Y) (.func (.func K) #[] #[ptrTo u]) (.func (.func N) #[] #[ptrTo u]) vE t) (srG vE t),c∈A:=fun c r=>by rw [T];exact Xd _ r
     have bc: ∀c∈F,c∈A:=fun c r=>by rw [T];exact Xe _ r
     have lF:=H.lt f.ok
     replace S:=S.base
     generalize bu:keys (srL y U W X d.nodes (ptrTo E) (ptrTo Y) (.func (.func K) #[] #[ptrTo u]) (.func (.func N) #[] #[ptrTo u]) vE t) (srG vE t)=KK at S J hF T
     unfold srL srG at S
     simp only [BS,LB,Nat.reduceLT,Nat.reduceEqDiff,Fm,r0,r13,r14,r15,aB,hlt,Z,ad,bM,S.ld (b:=y) (o:=5) m0 rfl]
     refine am (a1 _ gh a G) ?_;intro h' g';replace S:=S.call g'
     have bv:=g'.n
     cases P:al a with
     | false=>
       simp only [BS,LB,Nat.reduceLT,Nat.reduceEqDiff,r15,w]
       refine ih (i+1) _ _ (by omega) ⟨by omega,A,f.trans (M':=NoM) g'.fr (fun _ h=>h.elim),?_,hB',by simp [aa,r0,ac],by simp [aa,r1],by simp [aa,r13],by simp [aa,r14],by simp [aa]⟩
       rw [I]
       unfold scan1
       rw [P,if_neg Bool.false_ne_true]
       exact R'.gr g'
     | true=>
       have bx:Fl vE:=(S.gown _ m0).1.fl
       simp only [BS,LB,Nat.reduceLT,Nat.reduceEqDiff,Nat.reduceAdd,Fm,r0,S.ld (b:=y) (o:=7) m0 rfl]
       refine ag (bR (by exact Tryz.t50.1) (by exact X3) (by decide) (by rfl)) S ?_;clear S;intro h bs S bh;simp only [LC,aV,bK,ah,Nat.reduceMul,Nat.reduceAdd,XM,XA,XT,XU]at S
       simp only [BS,LB,Nat.reduceLT,Nat.reduceEqDiff]
       have ai:aJ h 4 (.slice (some ⟨bs,0,none⟩) 1 1)=some (1,ie ⟨1,a,0⟩):=by simp only [aJ];rw [S.lds (b:=bs) (o:=0) (n:=1*4) m0 (lbt rfl)];rfl
       replace S:=S.drop1
       refine dM (S.grow (j:=0) (m:=1) (new:=ie ⟨1,a,0⟩) rfl Tryz.t50.1 X3 (by decide) Tryz.t50.2.2.2.2.2 ai rfl (by decide) rfl (by rw [bZ ra];show(_+4)*_<=_;omega)) ?_
       clear S ai;rintro h2 C S
       simp only [LC]at S
       have ak:Fl C:=(S.gown _ m0).1.fl
       simp only [BS,LB,Nat.reduceLT,Nat.reduceEqDiff,Fm]
       refine az (ay S (i:=0) rfl Tryz.t50.2.2.1 ak (Xa (lbt rfl)) ono) ?_
       clear S;rintro h3 ⟨S,_⟩
       simp only [LC]at S
       have eE:(t.ev++[(⟨1,a,0⟩:Ev)]).flatMap ie=t.ev.flatMap ie++ie ⟨1,a,0⟩:=by rw [Xt];simp
       rw [<-eE]at S
       simp only [BS,LB,Nat.reduceLT,Nat.reduceEqDiff,Fm,r0,S.ld (b:=y) (o:=0) m0 rfl]
       have ax: ∀c∈KK,hq.n<=c:=fun c r=>a4 c (J c r)
       refine step_ret (iU S.ok (hn.gr (gh.mo' S.fr ax)) G) ?_
       rintro rv h4 ⟨g4,rfl⟩
       replace S:=S.call g4;clear g4
       have ga:d.arcs[a]=d.arcs.getD a default:=by simp [zO,G]
       have aL:=hA (d.arcs.getD a default) (by rw [<-ga];exact Xo G)
       have lv:=af.2.1
       have bB:t.O.length*cF<=12*cF:=XW _ (Xc Q.len n2)
       rw [ga]
       simp only [BS,LB,Nat.reduceLT,Nat.reduceEqDiff,Fm,cG]
       refine ag aw S ?_;clear S;intro h b6 S bi
       simp only [BS,LB,Nat.reduceLT,Nat.reduceEqDiff]
       refine az (S.store (i:=0) rfl ?_ ?_ rfl rfl ?_ ono) ?_
       . exact(by exact Tryz.t108.2.1)
       . exact(by intro x e;cases e)
       . exact lbt rfl
       clear S;rintro h ⟨S,mo⟩;clear mo;simp only [LC,ah,lay,Xj,Xk,Nat.reduceAdd]at S
       simp only [BS,LB,Nat.reduceLT,Nat.reduceEqDiff]
       have lL:=(S.row (b:=U) m2).load1 (tq (L:=t.L) hv)
       have wn:an .i64 ((t.L v:Int)+((d.arcs.getD a default).w:Int))=((t.L v+(d.arcs.getD a default).w:Nat):Int):=by rw [wrap64]<;>omega
       refine au (aC rfl) (q:=0) (ps:=[]) (by kernel_rfl) ?_
       simp only [BS,LB,cls,Nat.reduceLT,Nat.reduceEqDiff,Nat.reduceAdd,Nat.reducePow,Nat.reduceDiv,Nat.reduceMod,Nat.reduceLeDiff,Fm,r0,r1,wn,hv,lL,S.ld (b:=y) (o:=2) m1 rfl,S.ld (b:=b6) (o:=1) m0 rfl,S.ld (b:=b6) (o:=2) m0 rfl]
       have kn:=fun c r=>(S.key_own (b:=c) r).symm
       have kf:=S.fr
       have gx:=gh.mo' S.fr ax
       have bd: ∀c∈F,c∉keys (srL y U W X d.nodes (ptrTo E) (ptrTo Y) (.func (.func K) #[] #[ptrTo u]) (.func (.func N) #[] #[ptrTo u]) C (evS t ⟨1,a,0⟩)) (srG C (evS t ⟨1,a,0⟩)):=fun c r O=>by
        rcases kn c (Xn _ O)with D|D
        . exact hF c r D
        . have:=lF c r;omega
       have R2:=fT.close (σ:=evS t ⟨1,a,0⟩) (vE:=C) S.drop1 (H.mo kf (fun c r O=>hF c r O)) bd
       have a0: ∀c∈keys (srL y U W X d.nodes (ptrTo E) (ptrTo Y) (.func (.func K) #[] #[ptrTo u]) (.func (.func N) #[] #[ptrTo u]) C (evS t ⟨1,a,0⟩)) (srG C (evS t ⟨1,a,0⟩))++F,c∈A\/hS.n<=c:=fun c r=>by
        rcases List.mem_append.1 r with r|r
        . exact(kn c (Xn _ r)).imp (J c) (fun h=>h)
        . exact .inl (bc c r)
       refine cM (xM (p:=a::t.P v) (lab:=t.L v+(d.arcs.getD a default).w) gx R2 a2 n2 aL.1 (by omega) (hp _ aL.1) (fun k hk=>(Q.op _ k hk).2.2.2)) ?_
       rintro rv h5 ⟨f5,B3,R3,be⟩
       simp only [BS,LB,Nat.reduceLT,Nat.reduceEqDiff,Nat.reduceAdd,r15,w]
       have nh:=f.n
       have nx:=kf.n
       have gB: ∀c,c∈A\/hS.n<=c->c∈B\/D.n<=c:=fun c r=>r.elim (hB' c) (fun h=>.inr (by omega))
       refine ih (i+1) _ _ (by omega) ⟨by omega,B3,(f.trans kf (fun c r=>gB c (.inl (J c r)))).trans f5 (fun c r=>gB c (a0 c r)),?_,fun c r=>gB c ((be c r).elim (a0 c) (fun h=>.inr (by omega))),by simp [aa,r0,ac],by simp [aa,r1],by simp [aa,r13],by simp [aa,r14],by simp [aa]⟩
       rw [I]
       unfold scan1
       rw [P,if_pos rfl]
       exact R3
   . have ei:i=(outs d.arcs Arc.s d.arcs.length v).length:=by omega
     simp only [BS,LB,Nat.reduceLT,r14,r15,aB,hlt]
     refine⟨(g.fr (M:=(· ∈B))).trans f (fun c r=>.inl r),A,?_,fun c r=>(hB' c r).imp (fun h=>h) (fun h=>by omega)⟩
     rw [ei,Xp]at R'
     exact R'
 . exact⟨Xf _,B,Mo.refl a3,R1,fun c r=>.inl r,by simp [aa,aR,ac],by simp [aa,aR,bU],by simp [aa],by simp [aa],by simp [aa]⟩
def Tryz.Fz:=aj t1<|aj t2<|aj t3<|aj t4<|aj t24<|aj t28<|aj Z0<|aj t32<|aj t34<|aj t50<|aj Z9<|aj Z2<|aj t137<|aj t141<|aj t164<|aj Z1<|aj t193<|aj t194<|aj Z20<|Z11
theorem sback_ok{h0:Hp}(g:h0.t.Sized h0.n){f v:Nat}:Ret zL 129 [ptrTo f,.int .i64 v] h0 fun r d=>Gr h0 d/\ ∃b1 a,r=.func (.func 177) #[] #[ptrTo b1,ptrTo a]/\h0.n<=b1/\h0.n<=a/\b1≠a/\d.load b1 0 1=some [ptrTo f]/\Row d a [.int .i64 v] 1:=by
 have S:=Si g
 refine ab (n:=6) (rs:=[.tmp 4]) rfl Tryz.e129 rfl rfl rfl (lbt rfl) ?_
 simp only [BS,Nat.reduceLT]
 refine ag (bC (by exact cq)) S ?_;clear S;intro h b1 S b
 simp only [BS,Nat.reduceLT,Nat.reduceEqDiff,if_false]
 refine ag (bC (by exact aX)) S ?_;clear S;intro h a S c
 simp only [BS,LB,ae,Nat.reduceLT,Nat.reduceEqDiff]
 have i:=S.apart
 exact⟨S.gr,b1,a,rfl,b,c,fun e=>(by subst e;simp [keys]at i),S.ld m1 rfl,S.row m0⟩
theorem back_it{hq h0:Hp}(X:hq.t.Sized hq.n)(gq:Gr hq h0){k:Gra}(aL:Good k){nb A:Nat}(hn:aS hq nb (ptrTo A) k){B:List Nat}{w b1 f s:Nat}{p r:Value}{σ:SS}{al:Nat->Bool}{pi:Nat->Int}(R:fT h0 B w (ptrTo A) p r k.nodes σ)(Q:Sv k.arcs k.nodes s al pi σ){l:Nat}(hu:l∈σ.O)
 (e1:h0.load b1 0 1=some [ptrTo w]) (e2:Row h0 f [.int .i64 l] 1) (d1:f∉B) (d2:b1≠f) (d3:hq.n<=f):
 IterW zL 177 [ptrTo b1,ptrTo f] h0 (fun c=>c=b1\/c∈B\/c<hq.n) (· =f) ((σ.P l).map fun(a:Nat)=>[.int .i64 a]):=by
 intro lb J Z hz Y hW h F t y D E
 have g:=gq.ok
 obtain⟨bl,G,bk,ph,F',C,rfl,hL,_⟩:=R
 have rr:Row h0 w _ 1:=hL _ m0
 have rb:Row h0 G (byC k.nodes σ.P) 1:=hL _ m2
 have H:w∈keys (srL w bl G bk k.nodes (ptrTo A) (ptrTo ph) p r C σ) (srG C σ)++F':=Xd _ (by simp [srL,keys])
 have T:G∈keys (srL w bl G bk k.nodes (ptrTo A) (ptrTo ph) p r C σ) (srG C σ)++F':=Xd _ (by simp [srL,keys])
 generalize keys (srL w bl G bk k.nodes (ptrTo A) (ptrTo ph) p r C σ) (srG C σ)++F'=B at d1 H T t
 have l0:=rr.load1 (o:=0) rfl
 have l3:=rr.load1 (o:=3) rfl
 have d:Row h f [.int .i64 l] 1:=Row.of_get (y f rfl) e2
 have q2:=d.load1 (o:=0) rfl
 have U:=Q.lt l hu
 have I:=t.load g e1 (.inl rfl)
 have V:=t.load g l3 (.inr (.inl H))
 have W:=t.load g (rb.load1 (byC_at (P:=σ.P) U)) (.inr (.inl T))
 refine enter (n:=39) (rs:=[]) rfl Tryz.e177 rfl rfl rfl (lbt rfl) ?_
 simp only [BS,LB]
 refine au (aC rfl) (q:=0) (ps:=[]) (by kernel_rfl) ?_
 simp only [BS,LB,cls,Nat.reduceLT,Nat.reduceEqDiff,Nat.reduceAdd,Nat.reducePow,Nat.reduceDiv,Nat.reduceMod,Nat.reduceLeDiff,Fz,I,q2,V,W,U]
 refine aO (fun(j:Nat) K h=>j<=(σ.P l).length/\ ∃u F,u∈σ.O/\σ.P u=(σ.P l).drop j/\ItS h0 (fun c=>c=b1\/c∈B\/c<hq.n) h F/\f∉F/\J j h F/\Row h f [.int .i64 (u:Nat)] 1/\K 0=.func (.yield lb) #[] #[]/\K 1=ptrTo b1/\K 2=ptrTo f/\K 4=.int .i64 (byI (σ.P u))) (fun j=>(σ.P l).length-j) ?_ 0 _ _ ?_
 . clear I q2 V W U d E D y t F h
   intro j ih K hS ⟨hj',u,F,hu',hP,t,D,E,d,r0,r1,r2,r4⟩
   have U:=Q.lt u hu'
   rcases Q.path u (.inl hu')with⟨_,e,_⟩|⟨a,ha,a0,ht,hs,e,_⟩
   . have ej:j=(σ.P l).length:=by
      rw [e]at hP
      have:=congrArg List.length hP
      rw [List.length_drop]at this
      simp at this;omega
     rw [e]at r4
     simp only [byI]at r4
     simp only [BS,LB,Nat.reduceLT,Nat.reduceEqDiff,Int.reduceLE,r4]
     exact bS (cJ ⟨rfl,_,rfl,rfl,.inl ⟨_,F,rfl,by rw [Xr,<-ej];exact E⟩⟩)
   . have hlt:j<(σ.P l).length:=by
      rw [e]at hP
      have:=congrArg List.length hP
      rw [List.length_drop]at this
      simp at this;omega
     have L:(σ.P l)[j]=a/\(σ.P l).drop (j+1)=σ.P (k.arcs.getD a default).s:=by
      rw [e,XL hlt]at hP
      injection hP with h1 h2
      exact⟨h1.symm,h2.symm⟩
     have hx:((σ.P l).map fun(a:Nat)=>[Value.int .i64 a])[j]? =some [.int .i64 (a:Nat)]:=by rw [Xi,Xb hlt,L.1];rfl
     rw [e]at r4
     simp only [byI]at r4
     have c0:(0:Int)<=(a:Int):=by omega
     have ak:=d.lt t.ok
     simp only [BS,LB,Nat.reduceLT,Nat.reduceEqDiff,r0,r4,c0]
     refine cI Y t E (i:=j) hx ?_ ?_ ?_
     . intro M F2 ad m f2 af
       have z:Row M f [.int .i64 (u:Nat)] 1:=f2.has (o:=.row _ 1) d D
       have ai:f∉F2:=fun hm=>(af f hm).elim D (fun h=>by omega)
       have S:=St.init1 m.ok (o:=.row _ 1) z
       have I:=m.load g e1 (.inl rfl)
       have q0:=m.load g l0 (.inr (.inl H))
       have V:=m.load g l3 (.inr (.inl H))
       have sN:=Q.lt _ hs
       have W:=m.load g (rb.load1 (byC_at (P:=σ.P) sN)) (.inr (.inl T))
       have nt:aS M nb (ptrTo A) k:=hn.keep X (m.keep (Gr.keep gq) gq.n (fun c hc=>.inr (.inr hc)))
       simp only [BS,LB,Nat.reduceLT,Nat.reduceEqDiff,Fz,r1,r4,I,q0]
       refine step_ret (iU S.ok nt ha) ?_
       rintro rv h4 ⟨g4,rfl⟩
       replace S:=S.call g4;clear g4
       have ga:k.arcs[a]=k.arcs.getD a default:=by simp [zO,ha]
       rw [ga]
       have N: ∀{c},c=b1\/c∈B-> ¬c=f:=fun hc e=>by subst e;exact hc.elim (fun h=>d2 h.symm) d1
       simp only [BS,LB,Nat.reduceLT,Nat.reduceEqDiff,Fz,cG]
       refine ag aw S ?_;clear S;intro h b5 S ax
       simp only [BS,LB,Nat.reduceLT,Nat.reduceEqDiff]
       refine az (S.store (i:=0) rfl ?_ ?_ rfl rfl ?_ ono) ?_
       . exact(by exact Tryz.t108.2.1)
       . exact(by intro x e;cases e)
       . exact lbt rfl
       clear S;rintro h ⟨S,mo⟩;clear mo;simp only [LC,ah,lay,Xj,Xk,Nat.reduceAdd]at S
       simp only [BS,LB,Nat.reduceLT,Nat.reduceEqDiff,Fz,r2,S.ld (b:=b5) (o:=0) m0 rfl]
       refine az (ay S (i:=1) rfl ?_ ?_ ?_ ono) ?_
       . exact(by simp only [Fz])
       . exact(by exact aX)
       . exact Xa (lbt rfl)
       clear S;rintro h ⟨S,mo⟩;clear mo;simp only [LC,ah,lay,Xj,Xk,Nat.reduceAdd]at S
       have k1:=S.old I (N (.inl rfl))
       have k3:=S.old V (N (.inr H))
       have k4:=S.old W (N (.inr T))
       simp only [BS]
       refine au (aC rfl) (q:=0) (ps:=[]) (by kernel_rfl) ?_
       simp only [BS,LB,cls,Nat.reduceLT,Nat.reduceEqDiff,Nat.reduceAdd,Nat.reducePow,Nat.reduceDiv,Nat.reduceMod,Nat.reduceLeDiff,Fz,r1,r2,k1,k3,k4,sN,S.ld (b:=f) (o:=0) m1 rfl]
       have O:=S.fr
       refine ih (j+1) _ _ (by omega) ⟨by omega,(k.arcs.getD a default).s,F2,hs,L.2.symm,?_,ai,hW _ _ _ _ ad O,S.row (by simp),by simp [aa,r0],by simp [aa,r1,ac],by simp [aa,r2,ac],by simp [aa]⟩
       exact⟨O.ok,Xc m.n O.n,fun b y L=>(O.get b (Xg y m.n) (by rcases L with h|h|h;exact N (.inl h);exact N (.inr h);exact fun e=>by omega)).trans (m.data b y L),m.apart,fun b y=>Xg (m.lt b y) O.n⟩
     . intro M a' _
       simp only [BS,LB,Nat.reduceLT,Nat.reduceEqDiff]
       exact bS (cJ ⟨rfl,_,rfl,rfl,.inr (.inl ⟨_,rfl,a'⟩)⟩)
     . intro v M a'
       exact absurd a' (hz v M)
 . exact⟨Xf _,l,F,hu,by rw [XE],t,fun hm=>D f hm rfl,E,d,by simp [aa,bJ],by simp [aa,bJ,ac],by simp [aa,bJ,ac],by simp [aa]⟩
def Tryz.F01:=aj t1<|aj t2<|aj t3<|aj t4<|t34
def rvC(n k:Nat)(f:Nat->Value):List Value:=(zM n).map fun p=>if p<k\/n<=p+k then f (n-1-p)else f p
theorem my{n k:Nat}{f:Nat->Value}:(rvC n k f).length=n:=by simp [rvC]
theorem qA{n k i:Nat}{f:Nat->Value}(h:i<n):(rvC n k f)[i]? =some (if i<k\/n<=i+k then f (n-1-i)else f i):=ju (F:=fun p=>if p<k\/n<=p+k then f (n-1-p)else f p) h
theorem rvC_step{n k:Nat}{f:Nat->Value}(h:2*k+1<n):((rvC n k f).set k (f (n-1-k))).set (n-1-k) (f k)=rvC n (k+1) f:=by
 refine XK fun i=>?_
 rw [List.getElem?_set,List.getElem?_set,List.length_set,my]
 by_cases a:i<n
 . rw [qA a,qA a]
   by_cases b:n-1-k=i
   . subst b
     rw [if_pos rfl,if_pos a,if_pos (.inr (by omega)),show n-1-(n-1-k)=k by omega]
   . rw [if_neg b]
     by_cases d:k=i
     . subst d
       rw [if_pos rfl,if_pos a,if_pos (.inl (by omega))]
     . rw [if_neg d]
       congr 1
       by_cases c:i<k\/n<=i+k
       . rw [if_pos c,if_pos (by omega)]
       . rw [if_neg c,if_neg (by omega)]
 . rw [if_neg (by omega),if_neg (by omega)]
   rw [Xm (by rw [my];omega),Xm (by rw [my];omega)]
theorem rvC_zero{xs:List Nat}:xs.flatMap bM=rvC xs.length 0 fun p=>.int .i64 (xs.getD p 0:Nat):=by
 have e:xs.flatMap bM=xs.map fun(x:Nat)=>Value.int .i64 x:=by
  rw [Xs,XD,Xs];rfl
 rw [e]
 refine XK fun i=>?_
 by_cases a:i<xs.length
 . rw [qA a,if_neg (by omega)];simp [a]
 . rw [Xm (by simpa using a),Xm (by rw [my];omega)]
theorem rvC_done{xs:List Nat}{k:Nat}(h:xs.length<=2*k+1)(d:2*k<=xs.length):rvC xs.length k (fun p=>.int .i64 (xs.getD p 0:Nat))=xs.reverse.flatMap bM:=by
 have e:xs.reverse.flatMap bM=xs.reverse.map fun(x:Nat)=>Value.int .i64 x:=by
  rw [Xs,XD,Xs];rfl
 rw [e]
 refine XK fun i=>?_
 by_cases b:i<xs.length
 . rw [qA b,Xi,List.getElem?_reverse b]
   have a:xs.length-1-i<xs.length:=by omega
   rw [Xb a]
   have g: ∀{j:Nat} (a:j<xs.length),xs.getD j 0=xs[j]:=fun a=>by simp [zO,a]
   by_cases c:i<k\/xs.length<=i+k
   . rw [if_pos c,g a];rfl
   . rw [if_neg c]
     have:i=xs.length-1-i:=by omega
     rw [g b]
     simp only [Option.map_some]
     congr 3
     simp only [<-this]
 . rw [Xm (by rw [my];omega),Xm (by simpa using b)]
theorem A8{h0:Hp}(t:h0.t.Sized h0.n){v:Value}{xs:List Nat}(y:fJ h0 (v,1,xs.flatMap bM))(L:xs.length<1000000):
 Ret zL 130 [v] h0 fun _ u=>Mo (aq v) h0 u/\fJ u (v,1,xs.reverse.flatMap bM):=by
 rcases y with⟨g,j⟩|⟨b,n,g,j,e3⟩
 . simp only []at g j
   subst g
   have:xs=[]:=by
    cases xs with
    |nil=>rfl
    |cons a l=>simp [bM]at j
   subst this
   have S:=Si t
   refine ab (n:=28) (rs:=[]) rfl Tryz.e130 rfl rfl rfl (lbt rfl) ?_
   simp only [BS,LB,Nat.reduceLT,Nat.reduceEqDiff,Int.reduceSub,Xw,F01]
   rw [ct]
   have z:an .i64 (-1)= -1:=rfl
   have A: ¬((0:Int)< -1):=by omega
   simp only [BS,LB,Nat.reduceLT,Nat.reduceEqDiff,z,A]
   exact⟨S.gr.fr,.inl ⟨rfl,rfl⟩⟩
 . simp only []at g j e3
   subst g
   have B:n=xs.length:=by rw [uC]at j;omega
   subst B
   rw [rvC_zero]at e3
   have S:=St.init1 t (o:=.row _ 1) e3
   have C:an .i64 ((xs.length:Int)-1)=(xs.length:Int)-1:=by rw [wrap64]<;>omega
   refine ab (n:=28) (rs:=[]) rfl Tryz.e130 rfl rfl rfl (lbt rfl) ?_
   simp only [BS,LB,Nat.reduceLT,Nat.reduceEqDiff,F01,C]
   refine aO (fun(k:Nat) r h=>2*k<=xs.length/\St (· =b) h0 h [(b,.row (rvC xs.length k fun p=>.int .i64 (xs.getD p 0:Nat)) 1)] []/\r 0=.slice (some ⟨b,0,some 1⟩) xs.length xs.length/\r 2=.int .i64 (k:Nat)/\r 3=.int .i64 ((xs.length:Int)-1-k)) (fun k=>xs.length-k) ?_ 0 _ _ ?_
   . clear S
     intro k D r M ⟨hk,S,r0,r2,r3⟩
     by_cases hlt:2*k+1<xs.length
     . have s:(k:Int)<(xs.length:Int)-1-k:=by omega
       have e:k<xs.length:=by omega
       have d:xs.length-1-k<xs.length:=by omega
       have E:(xs.length:Int)-1-k=((xs.length-1-k:Nat):Int):=by omega
       have F:an .i64 ((k:Int)+1)=((k+1:Nat):Int):=by rw [wrap64]<;>omega
       have G:an .i64 (((xs.length-1-k:Nat):Int)-1)=(xs.length:Int)-1-(k+1:Nat):=by rw [wrap64]<;>omega
       have w:=(S.row (b:=b) m0).load1 (qA e)
       have x:=(S.row (b:=b) m0).load1 (qA d)
       rw [if_neg (by omega)]at w x
       rw [E]at r3 s
       simp only [BS,LB,Nat.reduceLT,Nat.reduceEqDiff,r2,r3,s]
       refine au (aC rfl) (q:=0) (ps:=[]) (by kernel_rfl) ?_
       simp only [BS,LB,cls,Nat.reduceLT,Nat.reduceEqDiff,Nat.reduceAdd,Nat.reducePow,Nat.reduceDiv,Nat.reduceMod,Nat.reduceLeDiff,F01,r0,r2,r3,e,d,w,x]
       refine dw (ay S (i:=0) rfl Tryz.t3.2.2.1 aX (by rw [my];exact e) ono) ?_
       clear S;rintro N ⟨S,H⟩
       simp only [LC]at S
       simp only [BS,LB,cls,Nat.reduceLT,Nat.reduceEqDiff,Nat.reduceAdd,Nat.reducePow,Nat.reduceDiv,Nat.reduceMod,Nat.reduceLeDiff,F01,d]
       refine dw (ay S (i:=0) rfl Tryz.t3.2.2.1 aX (by rw [List.length_set,my];exact d) ono) ?_
       clear S;rintro O ⟨S,I⟩
       simp only [LC]at S
       have J:=rvC_step (f:=fun p=>.int .i64 (xs.getD p 0:Nat)) hlt
       rw [J]at S
       simp only [BS,LB,Nat.reduceLT,Nat.reduceEqDiff,Nat.reduceAdd,r2,r3,F,G]
       exact D (k+1) _ _ (by omega) ⟨by omega,S,by simp [aa,r0],by simp [aa],by simp [aa]⟩
     . have s: ¬(k:Int)<(xs.length:Int)-1-k:=by omega
       simp only [BS,LB,Nat.reduceLT,Nat.reduceEqDiff,r2,r3,s]
       have m:=S.row m0
       rw [rvC_done (by omega) hk]at m
       exact⟨S.fr.mono (fun c K=>Eq.symm K),.inr ⟨b,xs.length,rfl,by show xs.length*1=(xs.reverse.flatMap bM).length;rw [uC,XZ];omega,m⟩⟩
   . exact⟨by omega,S,by simp [aa,aR],by simp [aa],by simp [aa]⟩
def Tryz.Ft:=aj t1<|aj t2<|aj t3<|aj t4<|aj t5<|aj t6<|aj Z3<|aj Z4<|aj t9<|aj t10<|aj t11<|aj t24<|aj t28<|aj t32<|aj t34<|aj t50<|aj Z9<|aj t89<|aj r89<|aj t132<|aj t137<|aj t141<|aj Z1<|aj t193<|aj t194<|aj Z20<|aj Z7<|Z11
def zS:SS:=⟨fun _=>none,fun _=>0,fun _=>[],[],[]⟩
def FdAt(h:Hp)(m:Nat)(r:Value)(b:Fd):Prop:= ∃d a,r=.agg ⟨[.int .i64 (b.dist:Nat),d,a]⟩/\fJ h (d,1,b.arcs.flatMap bM)/\fJ h (a,4,b.ev.flatMap ie)/\(∀c,aq d c->m<=c/\ ¬aq a c)/\ ∀c,aq a c->m<=c
theorem yQ(A:List Arc)(al:Nat->Bool)(pi:Nat->Int)(v:Nat)(σ:SS):(lz A al pi v σ).ev.length<=σ.ev.length+A.length:=by
 have: ∀(l:List Nat) (σ:SS),(l.foldl (scan1 A al pi v) σ).ev.length<=σ.ev.length+l.length:=by
  intro l
  induction l with
  |nil=>intro σ;simp
  |cons a l b=>intro σ;have c:=b (scan1 A al pi v σ a);have d:=yM A al pi v σ a;simp only [XC,XO];omega
 have c:=this (outs A Arc.s A.length v) σ
 have d:=kT A Arc.s A.length v
 unfold lz
 omega
theorem srun_ok {hq h0:Hp} (ad:hq.t.Sized hq.n) (gq:Gr hq h0) {g:Gra} (y:Good g) {nb C:Nat} (hn:aS hq nb (ptrTo C) g) {B0:List Nat} {u w s to:Nat} {D E:FuncId} {al:Nat->Bool} {pi:Nat->Int} (R0:fT h0 B0 u (ptrTo C) (.func (.func D) #[] #[ptrTo w]) (.func (.func E) #[] #[ptrTo w]) g.nodes zS) (af: ∀c∈B0,hq.n<=c) (a6:AlF zL hq D w g.arcs.length al) (ai:PiF zL hq E w g.nodes pi) (hp: ∀v,v<g.nodes-> -(FAR:Int)<=pi v)
 (hs:s<g.nodes) (b0:to<g.nodes):
 Ret zL 71 [ptrTo u,.int .i64 (s:Nat),.int .i64 (to:Nat)] h0 fun r h'=>Gr hq h'/\ ∃fd,Ends g.arcs al pi to (iF pi s) fd/\FdAt h' hq.n r fd:=by
 have ok:=gq.ok
 have n1:=y.n1
 have n2:=y.n2
 have bP:=y.many
 have wm:=pj
 have fr:=nL
 have hA: ∀a∈g.arcs,a.t<g.nodes/\a.w<=cF:=fun a ha=>⟨(y.arcs a ha).2.1,(y.arcs a ha).2.2⟩
 have lB:=R0.lt ok
 have S:=Si ok
 refine ab (n:=79) (rs:=[.cell 6 89]) rfl Tryz.e71 rfl rfl rfl (lbt rfl) ?_
 simp only [BS,Ft]
 refine ag aw S ?_;clear S;intro h l S J
 simp only [BS,LB,Nat.reduceLT,Nat.reduceEqDiff]
 have K:=S.row (b:=l) m0
 have gA:=S.gr
 have a7:=S.ok
 have l6:=K.lt a7
 have n6:l∉B0:=fun h=>by have:=lB l h;have:=J;omega
 have q6:hq.n<=l:=Xc gq.n J
 clear S
 rename Hp=>hA'
 have rc:Ret zL 126 [ptrTo u,.int .i64 (s:Nat),.int .i64 0,.int .i64 (-1)] hA' _:=xM (p:=[]) (lab:=0) (gq.trans gA) (R0.gr gA) ai n2 hs (Xf _) (hp s hs) (fun k h=>by cases h)
 refine step_ret rc ?_
 rintro r h1 ⟨f1,B1,R1,ak⟩
 clear rc
 simp only [BS]
 refine aO (fun(σ:SS) ρ h=> ∃B,Mo (fun c=>c∈B0\/c=l) hA' h/\Row h l [.int .i64 0,.slice none 0 0,.slice none 0 0] 1/\fT h B u (ptrTo C) (.func (.func D) #[] #[ptrTo w]) (.func (.func E) #[] #[ptrTo w]) g.nodes σ/\(∀c∈B,c∈B0\/hA'.n<=c)/\Sv g.arcs g.nodes s al pi σ/\σ.ev.length<=σ.O.length*200/\(∀r,Ends g.arcs al pi to σ r->Ends g.arcs al pi to (iF pi s) r)/\ρ 0=ptrTo u/\ρ 1=.int .i64 (s:Nat)/\ρ 2=.int .i64 (to:Nat)/\ρ 6=ptrTo l) (fun σ=>g.nodes-σ.O.length) ?_ (iF pi s) _ _ ?_
 . clear R1 f1 ak B1 h1
   intro σ ih ρ hS ⟨B,f,row6',R,hB,sv,hev,hE,r0,r1,r2,r6⟩
   have P: ∀c∈B,hq.n<=c:=fun c d=>(hB c d).elim (af c) (fun h=>by have:=(gq.trans gA).n;omega)
   have gh:Gr hq hS:=(((gq.trans gA).fr (M:=NoM)).trans f (fun c d=>.inr (d.elim (af c) (fun e=>by subst e;exact q6)))).gr
   have Q:l∉B:=fun h=>(hB l h).elim n6 (fun h=>by omega)
   have ol:=sv.len
   have b3:σ.O.length*cF<=12*cF:=XW _ (Xc ol n2)
   obtain⟨N,bb,bk,T,F,vE,ax,S,H,hF⟩:=R.open f.ok
   have aL: ∀c∈keys (srL u N bb bk g.nodes (ptrTo C) (ptrTo T) (.func (.func D) #[] #[ptrTo w]) (.func (.func E) #[] #[ptrTo w]) vE σ) (srG vE σ),c∈B:=fun c d=>by rw [ax];exact Xd _ d
   have U: ∀c∈F,c∈B:=fun c d=>by rw [ax];exact Xe _ d
   have lF:=H.lt f.ok
   replace S:=(S.base.mono (M':=fun c=>c∈B\/c=l) (fun c d=>.inl (aL c d))).push (b:=l) (o:=.row _ 1) (.inr (.inr rfl)) row6' (fun h=>Q (aL l h))
   have bc: ∀c∈F,c≠l:=fun c d e=>Q (by rw [<-e];exact U c d)
   have V: ∀c∈F,c∉keys ((l,Ob.row [.int .i64 0,.slice none 0 0,.slice none 0 0] 1)::srL u N bb bk g.nodes (ptrTo C) (ptrTo T) (.func (.func D) #[] #[ptrTo w]) (.func (.func E) #[] #[ptrTo w]) vE σ) (srG vE σ):=fun c d W=>(List.mem_cons.1 W).elim (bc c d) (hF c d)
   unfold srL srG at S
   simp only [BS,LB,Nat.reduceLT,Nat.reduceEqDiff,Ft,r0,S.ld (b:=u) (o:=1) m1 rfl]
   refine step_ret (vq S.ok H (by omega)) ?_
   rintro rv h2 (⟨rfl,X,bd⟩|⟨v,k,rfl,hk,a0,f2,H2⟩)
   . replace S:=S.call bd
     have Y:Fl vE:=(S.gown _ m0).1.fl
     simp only [BS,LB,Nat.reduceLT,Nat.reduceEqDiff,Nat.reduceAdd,Ft,r0,r6,Y,S.ld (b:=u) (o:=7) m1 rfl]
     refine az (S.store (i:=0) rfl Tryz.t89.2.1 (by intro x e;cases e) rfl (by simp only [ah,XX,X4,Y.2.1,Xz];rfl) (lbt rfl) ono) ?_
     clear S;rintro h3 ⟨S,mo⟩
     simp only [LC,ah,lay,Xj,Xk,Nat.reduceAdd]at S
     simp only [BS,ae]
     refine(cU (by decide) (by simp only [aK,r6,ac,Nat.reduceEqDiff,reduceIte];exact c9 Tryz.t89.1 Tryz.t89.2.1 (S.lds (b:=l) (o:=0) (n:=3) m0 (lbt rfl)))).2 (dH.2 ?_)
     refine⟨(gh.fr (M:=NoM)).trans S.fr (fun c d=>.inr (d.elim (P c) (fun e=>by subst e;exact q6)))|>.gr,_,hE _ (.none X),.slice none 0 0,vE,rfl,.inl ⟨rfl,rfl⟩,(S.gown _ m0).1,fun c d=>d.elim,fun c d=>?_⟩
     have:=(S.gown _ m0).2 c (rj (S.gown _ m0).1 d)
     exact this.elim (fun h=>Xc gh.n h) (fun h=>h.elim (P c) (fun e=>by subst e;exact q6))
   . have O:Pops σ.K v k:=⟨hk,a0⟩
     obtain⟨Z,nO,pv,ek⟩:=sv.op v k hk
     replace S:=S.stepF f2 (fun c d=>⟨.inl (.inl (U c d)),V c d⟩)
     have bv:=(sv.bd v).1
     have Sp:=S
     have be:=H2.lt Sp.ok
     have kp: ∀c∈keys ((l,Ob.row [.int .i64 0,.slice none 0 0,.slice none 0 0] 1)::srL u N bb bk g.nodes (ptrTo C) (ptrTo T) (.func (.func D) #[] #[ptrTo w]) (.func (.func E) #[] #[ptrTo w]) vE σ) (srG vE σ),hS.n<=c\/c∈B\/c=l:=fun c d=>Sp.key_own d
     have kl:=fun {c} d=>Sp.key_lt (b:=c) d
     have np:=Sp.fr.n
     replace S:=S.base
     have Y:Fl vE:=(S.gown _ m0).1.fl
     simp only [BS,LB,Nat.reduceLT,Nat.reduceEqDiff,Ft,r0,Z,S.ld (b:=u) (o:=4) m1 rfl]
     refine az (ay S (i:=4) rfl Tryz.t4.2.2.1 mC (by rw [clC_len];exact Z) ono) ?_
     clear S;rintro h3 ⟨S,b4⟩
     simp only [LC]at S
     rw [clC_set]at S
     have lL:=(S.row (b:=N) m2).load1 (tq (L:=σ.L) Z)
     simp only [BS]
     refine au (aC rfl) (q:=16384) (ps:=[]) (by kernel_rfl) ?_
     simp only [BS,LB,cls,Nat.reduceLT,Nat.reduceEqDiff,Nat.reduceAdd,Nat.reducePow,Nat.reduceDiv,Nat.reduceMod,Nat.reduceLeDiff,Ft,r0,Z,lL,S.ld (b:=u) (o:=7) m1 rfl,S.ld (b:=u) (o:=2) m1 rfl]
     refine dS (bR (by exact Tryz.t50.1) (by exact X3) (by decide) (by rfl)) S ?_;clear S;intro h bs S bX bY;simp only [LC,aV,bK,ah,Nat.reduceMul,Nat.reduceAdd,XM,XA,XT,XU]at S
     simp only [BS,LB,cls,Nat.reduceLT,Nat.reduceEqDiff,Nat.reduceAdd,Nat.reducePow,Nat.reduceDiv,Nat.reduceMod,Nat.reduceLeDiff]
     have a1:aJ h 4 (.slice (some ⟨bs,0,none⟩) 1 1)=some (1,ie ⟨0,v,σ.L v⟩):=by simp only [aJ];rw [S.lds (b:=bs) (o:=0) (n:=1*4) m0 (lbt rfl)];rfl
     replace S:=S.drop1
     refine dn_v (S.grow (j:=0) (m:=1) (new:=ie ⟨0,v,σ.L v⟩) rfl Tryz.t50.1 X3 (by decide) Tryz.t50.2.2.2.2.2 a1 rfl (by decide) rfl (by rw [bZ ra];show(_+4)*_<=_;omega)) ?_
     clear S a1;rintro h2 t S
     simp only [LC]at S
     have A:Fl t:=(S.gown _ m0).1.fl
     simp only [BS,LB,cls,Nat.reduceLT,Nat.reduceEqDiff,Nat.reduceAdd,Nat.reducePow,Nat.reduceDiv,Nat.reduceMod,Nat.reduceLeDiff,Ft]
     refine dw (ay S (i:=1) rfl Tryz.t50.2.2.1 A (Xa (lbt rfl)) ono) ?_
     clear S;rintro h3 ⟨S,_⟩
     simp only [LC]at S
     have eE:(σ.ev++[(⟨0,v,σ.L v⟩:Ev)]).flatMap ie=σ.ev.flatMap ie++ie ⟨0,v,σ.L v⟩:=by rw [Xt];simp
     rw [<-eE]at S
     have bq: ∀c,hS.n<=c\/c∈B\/c=l->hq.n<=c:=fun c d=>d.elim (fun h=>Xc gh.n h) (fun h=>h.elim (P c) (fun e=>by subst e;exact q6))
     have wq:=(((gh.fr (M:=NoM)).trans Sp.fr (fun c d=>.inr (bq c (.inr d)))).trans S.fr (fun c d=>.inr (bq c (kp c d)))).gr
     have G:=sv.close hk
     have kn:=fun {c} d=>S.key_own (b:=c) d
     have nS:=S.fr.n
     have bf: ∀c∈F,c∉keys (srL u N bb bk g.nodes (ptrTo C) (ptrTo T) (.func (.func D) #[] #[ptrTo w]) (.func (.func E) #[] #[ptrTo w]) t (cP σ v)) (srG t (cP σ v)):=fun c d W=>by
      rcases kn (Xn _ W)with h|h
      . have:=be c d;omega
      . exact V c d h
     have Hc:c6 _ F (ptrTo T) g.nodes (cP σ v).K:=H2.mo S.fr (fun c d W=>V c d W)
     have Rc:=fT.close (σ:=cP σ v) (vE:=t) S.drop1 Hc bf
     have I: ∀c∈keys (srL u N bb bk g.nodes (ptrTo C) (ptrTo T) (.func (.func D) #[] #[ptrTo w]) (.func (.func E) #[] #[ptrTo w]) t (cP σ v)) (srG t (cP σ v))++F,hS.n<=c\/c∈B:=fun c d=>by
      rcases List.mem_append.1 d with d|d
      . have ne:c≠l:=fun e=>by
         subst e
         exact(List.nodup_cons.1 S.apart).1 d
        rcases kn (Xn _ d)with h|h
        . exact .inl (by omega)
        . exact(kp c h).imp (fun h=>h) (fun h=>h.elim (fun h=>h) (fun e=>absurd e ne))
      . exact .inr (U c d)
     have a2: ∀c∈keys (srL u N bb bk g.nodes (ptrTo C) (ptrTo T) (.func (.func D) #[] #[ptrTo w]) (.func (.func E) #[] #[ptrTo w]) t (cP σ v)) (srG t (cP σ v))++F,hq.n<=c:=fun c d=>bq c ((I c d).imp (fun h=>h) .inl)
     have bh:=S.ok
     have k3:=fun {c} d=>S.key_lt (b:=c) d
     have bo: ∀c,hS.n<=c\/c∈B\/c=l->(c∈B0\/c=l)\/hA'.n<=c:=fun c d=>d.elim (fun h=>.inr (Xc f.n h)) (fun h=>h.elim (fun h=>(hB c h).imp .inl (fun h=>h)) (fun e=>.inl (.inr e)))
     have bi:=Rc.lt bh
     by_cases hv:v=to
     . subst hv
       simp only [BS,LB,Nat.reduceLT,Nat.reduceEqDiff,Nat.reduceAdd,r0,r2]
       refine step_ret (sback_ok S.ok) ?_
       rintro rv h4 ⟨g4,b1,b2,rfl,b5,bm,nb,e1,e2⟩
       replace S:=S.call g4
       have b7:=g4.n
       simp only [BS,LB,Nat.reduceLT,Nat.reduceEqDiff]
       have pl:=(G.bd v).2
       have b8:=G.len
       refine step_ret (tO S.ok (back_it ad (wq.trans g4) y hn (Rc.gr g4) G (Xe _ (by simp)) e1 e2 (fun h=>by have:=bi b2 h;omega) nb (Xc wq.n bm)) (fun b hb=>by subst hb;exact e2.lt g4.ok) (by omega)) ?_
       rintro vA h5 ⟨fW,bt,z⟩
       replace S:=S.step fW (fun c d=>.inr (by subst d;omega)) (fun c d e=>by subst e;have:=k3 d;omega)
       simp only [BS,LB,Nat.reduceLT,Nat.reduceEqDiff]
       refine step_ret (A8 S.ok bt (by omega)) ?_
       rintro rv h6 ⟨fR,gR⟩
       have b9:=fW.n
       have cb: ∀c,aq vA c->_<=c:=z
       replace S:=S.step fR (fun c d=>.inr (by have:=z c d;omega)) (fun c d hb=>by have:=k3 d;have:=z c hb;omega)
       have a3:Fl vA:=gR.fl
       have lL:=(S.row (b:=N) m2).load1 (tq (L:=σ.L) Z)
       simp only [BS]
       refine au (aC rfl) (q:=0) (ps:=[]) (by kernel_rfl) ?_
       simp only [BS,LB,cls,Nat.reduceLT,Nat.reduceEqDiff,Nat.reduceAdd,Nat.reducePow,Nat.reduceDiv,Nat.reduceMod,Nat.reduceLeDiff,Ft,r0,r2,r6,Z,lL,A,a3,S.ld (b:=u) (o:=2) m1 rfl,S.ld (b:=u) (o:=7) m1 rfl]
       refine dw (S.store (i:=0) rfl Tryz.t89.2.1 (by intro x e;cases e) rfl (by simp only [ah,XX,X4,A.2.1,a3.2.1,Xz];rfl) (lbt rfl) ono) ?_
       have bu: ∀c,aq vA c->c≠l:=fun c d e=>by have:=z c d;have:=k3 (c:=l) (by simp [keys]);omega
       have kA: ∀c,aq vA c-> ¬aq t c:=fun c d he=>by
        have:=z c d
        have:=k3 (gp (p:=(t,4,_)) m0 (rj (S.gown _ m0).1 he))
        omega
       clear S;rintro h7 ⟨S,mo⟩
       simp only [LC,ah,lay,Xj,Xk,Nat.reduceAdd]at S
       simp only [BS,LB,ae,Nat.reduceAdd]
       refine(cU (by decide) (by simp only [aK,r6,ac,Nat.reduceEqDiff,reduceIte];exact c9 Tryz.t89.1 Tryz.t89.2.1 (S.lds (b:=l) (o:=0) (n:=3) m0 (lbt rfl)))).2 (dH.2 ?_)
       have bx:=(((gh.fr (M:=NoM)).trans Sp.fr (fun c d=>.inr (bq c (.inr d)))).trans S.fr (fun c d=>.inr (bq c (kp c d)))).gr
       refine⟨bx,_,hE _ (.hit O),vA,t,rfl,gR.of_get (fun c d=>mo.get c (gR.lt fR.ok d) ?_),(S.gown _ m0).1,fun c d=>⟨by have:=z c d;have:=wq.n;omega,kA c d⟩,fun c d=>?_⟩
       . obtain⟨a',n',e',_⟩: ∃a' n',vA=Value.slice (some ⟨a',0,some 1⟩) n' n'/\a'=c:=by
          rcases gR with⟨e,_⟩|⟨b',n',e,_⟩
          . simp only []at e;rw [e]at d;cases d
          . simp only []at e;rw [e]at d;cases d;exact⟨_,_,e,rfl⟩
         exact bu c (by rw [e'];assumption)
       . exact bq c (((S.gown _ m0).2 c (rj (S.gown _ m0).1 d)).elim (fun h=>.inl (Xc np h)) (fun h=>kp c h))
     . have bB: ¬((v:Int)=(to:Int)):=by omega
       simp only [BS,LB,Nat.reduceLT,Nat.reduceEqDiff,Nat.reduceAdd,r0,r2,bB]
       obtain⟨a4,bE⟩:=sv.next hA hk
       refine step_ret (sscan_ok ad wq y hn Rc a2 a6 ai hp Z G (sv.room v) (by show(σ.ev++[_]).length<=10000;simp;omega)) ?_
       rintro rv h4 ⟨f4,B4,R4,bL⟩
       simp only [BS]
       have es:=yQ g.arcs al pi v (cP σ v)
       have eO:(lz g.arcs al pi v (cP σ v)).O=σ.O++[v]:=bE.O
       have ec:(cP σ v).ev.length=σ.ev.length+1:=by show(σ.ev++[_]).length=_;simp
       have a5:=a4.len
       rw [eO]at a5
       simp at a5
       refine ih _ _ _ (by rw [eO];simp;omega) ⟨B4,?_,?_,R4,?_,a4,by rw [eO];simp;omega,fun r hr=>hE r (.step O hv hr),by simp [aa,r0,ac],by simp [aa,r1],by simp [aa,r2],by simp [aa,r6,ac]⟩
       . exact((f.trans Sp.fr (fun c d=>bo c (.inr d))).trans S.fr (fun c d=>bo c (kp c d))).trans f4 (fun c d=>bo c ((I c d).imp (fun h=>h) .inl))
       . exact f4.has (o:=.row _ 1) (S.row m0) (fun W=>(I l W).elim (fun h=>by have:=f.n;omega) Q)
       . exact fun c d=>(bL c d).elim (fun h=>(I c h).elim (fun h=>.inr (Xc f.n h)) (hB c)) (fun h=>.inr (by have:=f.n;omega))
 . have k0:(iF pi s).ev.length=0:=by unfold iF;rw [yF];rfl
   exact⟨B1,f1.mono (fun c d=>.inl d),f1.has (o:=.row _ 1) K n6,R1,ak,qF hs,by omega,fun r hr=>hr,by simp [aa,aR,ac],by simp [aa,aR,bU],by simp [aa,aR,bU],by simp [aa,ac]⟩
def Tryz.F0V:=aj t1<|aj t2<|aj t3<|aj t4<|aj t24<|aj t28<|Z24
def Tryz.F0W:=aj t1<|aj t2<|aj t3<|aj t4<|aj t24<|aj t28<|Z24
def Tryz.Fu:=aj t1<|aj t2<|aj t3<|aj t4<|aj t5<|aj t6<|aj t24<|aj t28<|aj Z0<|aj t32<|aj t34<|aj t50<|aj Z9<|aj Z24<|aj t137<|aj t141<|aj t164<|aj Z1<|aj t193<|aj t194<|aj Z20<|aj Z7<|Z11
def Tryz.F0X:=aj t1<|aj t3<|aj t4<|t24
def Tryz.F0Y:=aj t1<|aj t2<|aj t3<|aj t4<|t28
def Tryz.F1L:=aj t1<|aj t3<|aj t4<|aj Z0<|aj t32<|aj t164<|Z1
def Tryz.Fg:=aj t1<|aj t2<|aj t3<|aj t4<|aj t5<|aj t6<|aj Z3<|aj Z4<|aj t24<|aj t28<|aj Z0<|aj t32<|aj t34<|aj t47<|aj t50<|aj Z9<|aj t89<|aj r89<|aj Z24<|aj t137<|aj t141<|aj t164<|aj Z1<|aj t193<|aj t194<|Z20
def alF(b:List Bool)(a:Nat):Bool:=b.isEmpty||b.getD a false
def piF(a:List Int)(v:Nat):Int:=if a=[]then 0 else max (-72057594037927936) (a.getD v 0)
theorem piF_lo(a:List Int)(v:Nat): -(FAR:Int)<=piF a v:=by
 have:=nL
 unfold piF
 split<;>omega
theorem al_ok{hq:Hp}{p n:Nat}{j:Value}{d:List Bool}(s:hq.load p 2 1=some [j])(t:ar hq 1 kP j d)(q:d=[]\/d.length=n):AlF zL hq 124 p n (alF d):=by
 intro h g a v
 have S:=Si g.ok
 have r:=g.load s
 have f:=t.gr g
 rcases q with rfl|q
 . refine ab (n:=15) (rs:=[.tmp 3]) rfl Tryz.e124 rfl rfl rfl (lbt rfl) ?_
   simp only [BS,LB,ae,Nat.reduceLT,Nat.reduceEqDiff,Xw,F0V,r,f.lenq]
   exact⟨rfl,S.gr⟩
 . have u: ¬((d.length:Int)=0):=by omega
   have i:a<d.length:=by omega
   obtain⟨c,o,k,m⟩:=f.ix (kd:=.i64) zZ i
   have e:alF d a=d[a]:=by
    unfold alF
    cases d with
    |nil=>simp at i
    | cons b l=>
      show(false||(b::l).getD a false)=_
      rw [zO,Xb i];rfl
   rw [e]
   refine ab (n:=15) (rs:=[.tmp 3]) rfl Tryz.e124 rfl rfl rfl (lbt rfl) ?_
   simp only [BS,LB,ae,Nat.reduceLT,Nat.reduceEqDiff,F0V,r,f.lenq,u,k,m,kP]
   exact S.gr
theorem pi_ok{hq:Hp}{l n:Nat}{i:Value}{b:List Int}(q:hq.load l 3 1=some [i])(r:ar hq 1 (encI .i64) i b)(m:b=[]\/b.length=n):PiF zL hq 125 l n (piF b):=by
 intro h g a t
 have S:=Si g.ok
 have p:=g.load q
 have d:=r.gr g
 rcases m with rfl|m
 . refine ab (n:=14) (rs:=[.tmp 3]) rfl Tryz.e125 rfl rfl rfl (lbt rfl) ?_
   simp only [BS,LB,ae,Nat.reduceLT,Nat.reduceEqDiff,Xw,F0W,p,d.lenq]
   exact⟨rfl,S.gr⟩
 . have s: ¬((b.length:Int)=0):=by omega
   have f:a<b.length:=by omega
   obtain⟨c,o,j,k⟩:=d.ix (kd:=.i64) (bO .i64) f
   have e:piF b a=max (-72057594037927936) b[a]:=by
    unfold piF
    rw [if_neg (by intro e;subst e;simp at f)]
    simp [zO,f]
   rw [e]
   refine ab (n:=14) (rs:=[.tmp 3]) rfl Tryz.e125 rfl rfl rfl (lbt rfl) ?_
   simp only [BS,LB,ae,Nat.reduceLT,Nat.reduceEqDiff,F0W,p,d.lenq,s,j,k,encI]
   exact S.gr
theorem sstart_ok{h0:Hp}(U:h0.t.Sized h0.n){d:Gra}(t:Good d){V w:Nat}(l:aS h0 V (ptrTo w) d){s to:Int}{j k:Value}(fA:Fl j)(fP:Fl k):
 Ret zL 70 [ptrTo w,.agg ⟨[.int .i64 s,.int .i64 to,j,k]⟩] h0 fun r G=> ∃m f hq B,r=ptrTo m/\Gr h0 hq/\Gr hq G/\hq.load f 2 1=some [j]/\hq.load f 3 1=some [k]/\fT G B m (ptrTo w) (.func (.func 124) #[] #[ptrTo f]) (.func (.func 125) #[] #[ptrTo f]) d.nodes zS/\ ∀c∈B,hq.n<=c:=by
 have W:=t.n1
 have n2:=t.n2
 have S:=Si U
 refine ab (n:=34) (rs:=[.tmp 4]) rfl Tryz.e70 rfl rfl rfl (lbt rfl) ?_
 simp only [BS,Nat.reduceLT]
 refine ag (aZ (by intro x e;cases e)) S ?_;clear S;intro h f S I;simp only [ah]at S
 have z:=S.gr
 have X:=S.ld (b:=f) (o:=2) m0 rfl
 have Y:=S.ld (b:=f) (o:=3) m0 rfl
 clear S
 rename Hp=>hq
 replace l:=l.gr z
 have S:=Si z.ok
 simp only [BS]
 refine au (aC rfl) (q:=2880) (ps:=[]) (by kernel_rfl) ?_
 simp only [BS,LB,cls,Nat.reduceLT,Nat.reduceEqDiff,Nat.reduceAdd,Nat.reducePow,Nat.reduceDiv,Nat.reduceMod,Nat.reduceLeDiff]
 refine cy (ca S.ok (l.gr S.gr)) ?_;intro h g;replace S:=S.call g;clear g
 simp only [BS,LB,cls,Nat.reduceLT,Nat.reduceEqDiff,Nat.reduceAdd,Nat.reducePow,Nat.reduceDiv,Nat.reduceMod,Nat.reduceLeDiff]
 refine cM (wo S.ok) ?_;rintro Z h ⟨g,F,H,hF⟩
 have k0:=S.fr.n
 replace S:=S.call g;clear g
 have pp: ∃b,Z=ptrTo b:=by obtain⟨b,_,_,e,_⟩:=H.ex;exact⟨b,e⟩
 obtain⟨J,rfl⟩:=pp
 have p:=S
 have lF:=H.lt p.ok
 rename Hp=>h_H
 replace S:=S.base
 simp only [BS,LB,cls,Nat.reduceLT,Nat.reduceEqDiff,Nat.reduceAdd,Nat.reducePow,Nat.reduceDiv,Nat.reduceMod,Nat.reduceLeDiff]
 refine cy (ca S.ok (l.gr (p.rebase S).gr)) ?_;intro h g;replace S:=S.call g;clear g
 simp only [BS,LB,cls,Nat.reduceLT,Nat.reduceEqDiff,Nat.reduceAdd,Nat.reducePow,Nat.reduceDiv,Nat.reduceMod,Nat.reduceLeDiff]
 refine dS (jW (by exact Tryz.t28.1) (by exact Tryz.e2E) (by omega) (by omega)) S ?_;clear S;intro h A S K L
 simp only [BS,LB,cls,Nat.reduceLT,Nat.reduceEqDiff,Nat.reduceAdd,Nat.reducePow,Nat.reduceDiv,Nat.reduceMod,Nat.reduceLeDiff,Xx]
 refine qR (ca (h0:={h with lo:=h.n}) S.ok ((l.gr (p.rebase S).gr).keep S.ok (fun _ _=>rfl))) ?_;intro h g;replace S:=S.call g;clear g
 simp only [BS,LB,cls,Nat.reduceLT,Nat.reduceEqDiff,Nat.reduceAdd,Nat.reducePow,Nat.reduceDiv,Nat.reduceMod,Nat.reduceLeDiff]
 refine dS (jW (by exact Tryz.t24.1) (by exact Tryz.e4E) (by omega) (by omega)) S ?_;clear S;intro h C S M N
 simp only [BS,LB,cls,Nat.reduceLT,Nat.reduceEqDiff,Nat.reduceAdd,Nat.reducePow,Nat.reduceDiv,Nat.reduceMod,Nat.reduceLeDiff,Fu,Xx]
 refine dS (aZ (by intro x e;cases e)) S ?_;clear S;intro h m S O P;simp only [ah]at S
 simp only [BS,LB,cls,Nat.reduceLT,Nat.reduceEqDiff,Nat.reduceAdd,Nat.reducePow,Nat.reduceDiv,Nat.reduceMod,Nat.reduceLeDiff]
 refine ag (bR (by exact Tryz.t34.1) (by exact Tryz.e3E) (by decide) (by rfl)) S ?_;clear S;intro h Q S R;simp only [LC,aV,bK,ah,Nat.reduceMul,Nat.reduceAdd,XM,XA,XT,XU]at S
 simp only [BS,LB,Nat.reduceLT,Nat.reduceEqDiff]
 refine am (ca S.ok (l.gr (p.rebase S).gr)) ?_;intro h g;replace S:=S.call g;clear g
 simp only [BS,LB,Nat.reduceLT,Nat.reduceEqDiff]
 have D:=fun {c} (a:c∈_)=>S.key_lt (b:=c) a
 have kn:=S.fr.n
 refine step_ret (repI_ok S.ok (x:= -1) (.inr ⟨Q,0,none,1,rfl,Xy _,S.lds (b:=Q) (o:=0) (n:=1*1) m0 (lbt rfl)⟩) W (by omega)) ?_;intro v h ⟨g,y,eb,nb',Rb⟩;replace S:=S.call g;clear g
 subst eb
 replace S:=S.drop1
 replace S:=S.push (b:=y) (o:=.row _ 1) (.inl (Xc kn nb')) Rb (fun E=>by have:=D (Xn _ E);omega)
 simp only [BS,LB,Nat.reduceLT,Nat.reduceEqDiff,Fu]
 refine az (ay S (i:=1) rfl ?_ ?_ ?_ ono) ?_
 . exact(by simp only [Fu])
 . exact(by exact cg)
 . exact Xa (lbt rfl)
 clear S;rintro h ⟨S,u⟩;clear u;simp only [LC,ah,lay,Xj,Xk,Nat.reduceAdd]at S
 simp only [BS,LB,Nat.reduceLT,Nat.reduceEqDiff,Fu]
 refine az (ay S (i:=1) rfl ?_ ?_ ?_ ono) ?_
 . exact(by simp only [Fu])
 . exact(by exact fQ)
 . exact Xa (lbt rfl)
 clear S;rintro h ⟨S,u⟩;clear u;simp only [LC,ah,lay,Xj,Xk,Nat.reduceAdd]at S
 simp only [BS,LB,Nat.reduceLT,Nat.reduceEqDiff,Fu]
 refine az (ay S (i:=1) rfl ?_ ?_ ?_ ono) ?_
 . exact(by simp only [Fu])
 . exact(by exact fQ)
 . exact Xa (lbt rfl)
 clear S;rintro h ⟨S,u⟩;clear u;simp only [LC,ah,lay,Xj,Xk,Nat.reduceAdd]at S
 simp only [BS,LB,ae,Nat.reduceLT,Nat.reduceEqDiff]
 have e1:aV [Value.int .i64 0] ((d.nodes:Int)).toNat=labC d.nodes zS.L:=by rw [qC];rfl
 have e2:aV [Value.bool false] ((d.nodes:Int)).toNat=clC d.nodes zS.O:=by
  rw [qC];unfold clC zS
  exact List.map_congr_left fun v _=>by simp
 have e3:List.replicate d.nodes (Value.int .i64 (-1))=byC d.nodes zS.P:=by
  show _=(zM d.nodes).map fun _=>Value.int .i64 (-1)
  rw [List.map_const',List.length_range]
 rw [e1,e2,e3]at S
 have ap:=S.apart
 have D:=fun {c} a=>S.key_own (b:=c) a
 have n0:=p.fr.n
 have T: ∀c∈keys (srL m A y C d.nodes (ptrTo w) (ptrTo J) (.func (.func 124) #[] #[ptrTo f]) (.func (.func 125) #[] #[ptrTo f]) (.slice none 0 0) zS) (srG (.slice none 0 0) zS),h_H.n<=c:=fun c a=>by
  have:c=y\/c=m\/c=C\/c=A:=by simp [srL,srG,keys,ez]at a;omega
  rcases D (c:=c) (by simp [keys];omega)with h|h
  . exact h
  . simp [keys]at h
 refine⟨m,f,hq,_,rfl,z,(p.rebase S).gr,X,Y,⟨A,y,C,J,F,.slice none 0 0,rfl,fun q hq=>?_,.inl ⟨rfl,rfl⟩,?_,H.mo S.fr (fun c _ h=>by simp [keys]at h),fun c a E=>?_⟩,fun c a=>?_⟩
 . simp only [srL,Xq,Xl,or_false]at hq
   rcases hq with rfl|rfl|rfl|rfl
   . exact S.row m1
   . exact S.row m3
   . exact S.row m0
   . exact S.row m2
 . simp [srL,srG,keys,ez]at ap⊢
   exact⟨by omega,by omega,by omega,.nil⟩
 . have:=lF c a
   have:=T c E
   omega
 . rcases List.mem_append.1 a with a|a
   . exact Xc n0 (T c a)
   . exact Xc k0 (hF c a)
theorem fitsB_ok{h0:Hp}(d:h0.t.Sized h0.n){v:Value}{xs:List Bool}(b:ar h0 1 kP v xs){n:Nat}(e:xs=[]\/xs.length=n):aM zL 68 [v,.int .i64 n] h0 (.bool true):=by
 have S:=Si d
 by_cases a:(xs.length:Int)=0
 . refine ab (n:=14) (rs:=[.tmp 4]) rfl Tryz.e68 rfl rfl rfl (lbt rfl) ?_
   simp only [BS,LB,ae,Nat.reduceLT,Nat.reduceEqDiff,F0X,b.lenq,a]
   exact S.gr
 . have c:(xs.length:Int)=(n:Int):=by
    rcases e with rfl|h
    . simp at a
    . omega
   rw [c]at a
   refine ab (n:=14) (rs:=[.tmp 4]) rfl Tryz.e68 rfl rfl rfl (lbt rfl) ?_
   simp only [BS,LB,ae,Nat.reduceLT,Nat.reduceEqDiff,F0X,b.lenq,a,c]
   exact S.gr
theorem fitsI_ok{h0:Hp}(d:h0.t.Sized h0.n){v:Value}{xs:List Int}(b:ar h0 1 (encI .i64) v xs){n:Nat}(e:xs=[]\/xs.length=n):aM zL 69 [v,.int .i64 n] h0 (.bool true):=by
 have S:=Si d
 by_cases a:(xs.length:Int)=0
 . refine ab (n:=14) (rs:=[.tmp 4]) rfl Tryz.e69 rfl rfl rfl (lbt rfl) ?_
   simp only [BS,LB,ae,Nat.reduceLT,Nat.reduceEqDiff,F0Y,b.lenq,a]
   exact S.gr
 . have c:(xs.length:Int)=(n:Int):=by
    rcases e with rfl|h
    . simp at a
    . omega
   rw [c]at a
   refine ab (n:=14) (rs:=[.tmp 4]) rfl Tryz.e69 rfl rfl rfl (lbt rfl) ?_
   simp only [BS,LB,ae,Nat.reduceLT,Nat.reduceEqDiff,F0Y,b.lenq,a,c]
   exact S.gr
theorem uH{h0:Hp}(e:h0.t.Sized h0.n){a b:Nat}{d:Gra}{f:Nat}(c:aS h0 f (ptrTo a) d)(l:h0.load b 0 1=some [ptrTo a]){v:Nat}(i:v<d.nodes):aM zL 67 [.int .i64 (v:Nat),ptrTo b] h0 (.bool true):=by
 have S:=Si e
 have j:(0:Int)<=(v:Int):=by omega
 refine ab (n:=12) (rs:=[.tmp 3]) rfl Tryz.e67 rfl rfl rfl (lbt rfl) ?_
 simp only [BS,LB,Nat.reduceLT,Nat.reduceEqDiff,F1L,l,j]
 refine am (ca S.ok (c.gr S.gr)) ?_;intro h g;replace S:=S.call g;clear g
 simp only [BS,LB,ae,Nat.reduceLT,Nat.reduceEqDiff,aB,i]
 exact S.gr
theorem B6{h0:Hp}(ok:h0.t.Sized h0.n){u:Gra}(w:Good u){nb X:Nat}(y:aS h0 nb (ptrTo X) u){s to:Nat}(Y:s<u.nodes)(z:to<u.nodes){A C:Value}{l:List Bool}{f:List Int}(M:ar h0 1 kP A l)(D:l=[]\/l.length=u.arcs.length)(N:ar h0 1 (encI .i64) C f)(E:f=[]\/f.length=u.nodes):
 Ret zL 27 [ptrTo X,.agg ⟨[.int .i64 (s:Nat),.int .i64 (to:Nat),A,C]⟩] h0 fun r Z=>Gr h0 Z/\ ∃v F,r=.tuple #[v,.int .i64 0]/\FdAt Z h0.n v F/\((s=to/\F=⟨0,[],[]⟩)\/(s≠to/\Ends u.arcs (alF l) (piF f) to (iF (piF f) s) F)):=by
 have S:=Si ok
 have fA:=M.fl
 have fP:=N.fl
 refine ab (n:=57) (rs:=[.cell 4 89,.tmp 5]) rfl Tryz.e27 rfl rfl rfl (lbt rfl) ?_
 simp only [BS,Nat.reduceLT]
 refine ag (bC (by exact cq)) S ?_;clear S;intro h d S ad
 simp only [BS,Nat.reduceLT,Nat.reduceEqDiff,if_false]
 refine ag (aZ (by intro x e;cases e)) S ?_;clear S;intro h a S af;simp only [ah]at S
 simp only [BS,Fg]
 refine ag aw S ?_;clear S;intro h O S ai
 simp only [BS,LB,Nat.reduceLT,Nat.reduceEqDiff,Fg,S.ld (b:=d) (o:=0) m2 rfl]
 refine au (aC rfl) (q:=0) (ps:=[(22,24),(14,16)]) (by kernel_rfl) ?_
 simp only [BS,LB,cls,Nat.reduceLT,Nat.reduceEqDiff,Nat.reduceAdd,Nat.reducePow,Nat.reduceDiv,Nat.reduceMod,Nat.reduceLeDiff,Fg,S.ld (b:=d) (o:=0) m2 rfl,S.ld (b:=a) (o:=0) m1 rfl]
 have p1:=(S.row (b:=d) m2).lt S.ok
 have q1:=(S.row (b:=a) m1).lt S.ok
 refine cy (uH S.ok (y.gr S.gr) (S.ld (b:=d) (o:=0) m2 rfl) Y) ?_;intro h g;have P:=av g p1;have v1:=av g q1;replace S:=S.call g;clear g
 simp only [BS,LB,cls,Nat.reduceLT,Nat.reduceEqDiff,Nat.reduceAdd,Nat.reducePow,Nat.reduceDiv,Nat.reduceMod,Nat.reduceLeDiff,Fg,S.ld (b:=d) (o:=0) m2 rfl,S.ld (b:=a) (o:=1) m1 rfl]
 have p2:=(S.row (b:=d) m2).lt S.ok
 have q2:=(S.row (b:=a) m1).lt S.ok
 refine cy (uH S.ok (y.gr S.gr) (S.ld (b:=d) (o:=0) m2 rfl) z) ?_;intro h g;have u2:=av g p2;have v2:=av g q2;replace S:=S.call g;clear g
 simp only [BS,LB,cls,Nat.reduceLT,Nat.reduceEqDiff,Nat.reduceAdd,Nat.reducePow,Nat.reduceDiv,Nat.reduceMod,Nat.reduceLeDiff,Fg,S.ld (b:=d) (o:=0) m2 rfl,S.ld (b:=a) (o:=2) m1 rfl]
 have L:=(S.row (b:=d) m2).lt S.ok
 have q3:=(S.row (b:=a) m1).lt S.ok
 refine cy (j8 S.ok (y.gr S.gr)) ?_;intro h g;have u3:=av g L;have v3:=av g q3;replace S:=S.call g;clear g
 simp only [BS,LB,cls,Nat.reduceLT,Nat.reduceEqDiff,Nat.reduceAdd,Nat.reducePow,Nat.reduceDiv,Nat.reduceMod,Nat.reduceLeDiff]
 have p4:=(S.row (b:=d) m2).lt S.ok
 have q4:=(S.row (b:=a) m1).lt S.ok
 refine cy (fitsB_ok S.ok (M.gr S.gr) D) ?_;intro h g;have u4:=av g p4;have v4:=av g q4;replace S:=S.call g;clear g
 simp only [BS,LB,cls,Nat.reduceLT,Nat.reduceEqDiff,Nat.reduceAdd,Nat.reducePow,Nat.reduceDiv,Nat.reduceMod,Nat.reduceLeDiff,Fg,S.ld (b:=d) (o:=0) m2 rfl,S.ld (b:=a) (o:=3) m1 rfl]
 have p5:=(S.row (b:=d) m2).lt S.ok
 have q5:=(S.row (b:=a) m1).lt S.ok
 refine cy (ca S.ok (y.gr S.gr)) ?_;intro h g;have u5:=av g p5;have v5:=av g q5;replace S:=S.call g;clear g
 simp only [BS,LB,cls,Nat.reduceLT,Nat.reduceEqDiff,Nat.reduceAdd,Nat.reducePow,Nat.reduceDiv,Nat.reduceMod,Nat.reduceLeDiff]
 have p6:=(S.row (b:=d) m2).lt S.ok
 have q6:=(S.row (b:=a) m1).lt S.ok
 refine cy (fitsI_ok S.ok (N.gr S.gr) E) ?_;intro h g;have u6:=av g p6;have v6:=av g q6;replace S:=S.call g;clear g
 simp only [BS,LB,cls,Nat.reduceLT,Nat.reduceEqDiff,Nat.reduceAdd,Nat.reducePow,Nat.reduceDiv,Nat.reduceMod,Nat.reduceLeDiff,Fg]
 refine⟨by simp only [bg,bF,aW,bI,a9,ne_eq,not_false_eq_true,bN,ce,bA,bn,bQ,c8,aK,Nat.reduceLT,Nat.reduceEqDiff,reduceIte,Xz,ac,aI v3,aI v5],?_⟩
 clear p1 p2 L p4 p5 p6 q1 q2 q3 q4 q5 q6 P u2 u3 u4 u5 u6 v1 v2 v3 v4 v5 v6
 by_cases H:s=to
 . subst H
   simp only [BS,LB,Nat.reduceLT,Nat.reduceEqDiff,Fg,S.ld (b:=a) (o:=0) m1 rfl,S.ld (b:=a) (o:=1) m1 rfl]
   refine az (S.store (i:=0) rfl Tryz.t89.2.1 (by intro x e;cases e) rfl rfl (lbt rfl) ono) ?_
   clear S;rintro h3 ⟨S,mo⟩
   simp only [LC,ah,lay,Xj,Xk,Nat.reduceAdd]at S
   simp only [BS,ae]
   refine(cU (by decide) (by simp only [aK,ac,Nat.reduceEqDiff,reduceIte];exact c9 Tryz.t89.1 Tryz.t89.2.1 (S.lds (b:=O) (o:=0) (n:=3) m0 (lbt rfl)))).2 ?_
   refine(jw (by decide)).2 (dH.2 ?_)
   exact⟨S.gr,_,⟨0,[],[]⟩,rfl,⟨_,_,rfl,.inl ⟨rfl,rfl⟩,.inl ⟨rfl,rfl⟩,fun c j=>j.elim,fun c j=>j.elim⟩,.inl rfl⟩
 . have I: ¬((s:Int)=(to:Int)):=by omega
   simp only [BS,LB,Nat.reduceLT,Nat.reduceEqDiff,Fg,I,S.ld (b:=a) (o:=0) m1 rfl,S.ld (b:=a) (o:=1) m1 rfl]
   refine au (aC rfl) (q:=0) (ps:=[(2,6),(2,4)]) (by kernel_rfl) ?_
   simp only [BS,LB,cls,Nat.reduceLT,Nat.reduceEqDiff,Nat.reduceAdd,Nat.reducePow,Nat.reduceDiv,Nat.reduceMod,Nat.reduceLeDiff,Fg,XE,X2,XV,S.ld (b:=d) (o:=0) m2 rfl,S.lds (b:=a) (o:=0) (n:=4) m1 (lbt rfl)]
   have J:=y.gr S.gr
   have kS:=S.fr.n
   have L:=(S.row (b:=a) m1).lt S.ok
   refine cM (sstart_ok S.ok w J fA fP) ?_
   rintro r h5 ⟨br,ba,hq,B,rfl,m,Q,l2,l3,R,hB⟩
   have P:=av (m.trans Q) L
   have Aq:=M.gr (S.gr.trans m)
   have Pq:=N.gr (S.gr.trans m)
   have T:=S.call m
   have ak:=(T.row (b:=O) m0).lt T.ok
   replace S:=S.call (m.trans Q)
   simp only [BS,LB,cls,Nat.reduceLT,Nat.reduceEqDiff,Nat.reduceAdd,Nat.reducePow,Nat.reduceDiv,Nat.reduceMod,Nat.reduceLeDiff,Fg,S.ld (b:=a) (o:=0) m1 rfl,S.ld (b:=a) (o:=1) m1 rfl]
   have kq:=m.n
   have U:=J.gr m
   refine cM (srun_ok m.ok Q w U R hB (al_ok l2 Aq D) (pi_ok l3 Pq E) (fun v _=>piF_lo f v) Y z) ?_
   rintro rv h6 ⟨g6,F,he,vA,vE,rfl,G1,G2,V,d2⟩
   replace S:=T.call g6
   have f1:Fl vA:=G1.fl
   have f2:Fl vE:=G2.fl
   simp only [BS,LB,cls,Nat.reduceLT,Nat.reduceEqDiff,Nat.reduceAdd,Nat.reducePow,Nat.reduceDiv,Nat.reduceMod,Nat.reduceLeDiff]
   refine dw (S.store (i:=0) rfl Tryz.t89.2.1 (by intro x e;cases e) rfl (by simp only [ah,XX,X4,f1.2.1,f2.2.1,Xz];rfl) (lbt rfl) ono) ?_
   clear S;rintro h7 ⟨S,mo⟩
   simp only [LC,ah,lay,Xj,Xk,Nat.reduceAdd]at S
   simp only [BS,LB,cls,ae,Nat.reduceEqDiff,Nat.reduceAdd,Nat.reducePow,Nat.reduceDiv,Nat.reduceMod,Nat.reduceLeDiff]
   refine⟨by simp only [bg,bF,aW,bI,a9,ne_eq,not_false_eq_true,bN,ce,bA,bn,bQ,c8,aK,Nat.reduceLT,Nat.reduceEqDiff,reduceIte,Xz,ac,aN P],?_⟩
   refine(cU (by decide) (by simp only [aK,ac,Nat.reduceEqDiff,reduceIte];exact c9 Tryz.t89.1 Tryz.t89.2.1 (S.lds (b:=O) (o:=0) (n:=3) m0 (lbt rfl)))).2 ?_
   refine(jw (by decide)).2 (dH.2 ?_)
   have t: ∀{p:GL},fJ h6 p->(∀c,aq p.1 c->hq.n<=c)->fJ h7 p:=fun {p} G j=>G.of_get fun c W=>mo.get c (G.lt g6.ok W) fun e=>by
    have:=j c (by
     rcases G with⟨K,_⟩|⟨b',n',K,_⟩
     . obtain⟨v,k,vs⟩:=p
       simp only []at K
       subst K
       cases W
     . obtain⟨v,k,vs⟩:=p
       simp only []at K
       subst K
       cases W
       rfl)
    omega
   exact⟨S.gr,_,F,rfl,⟨vA,vE,rfl,t G1 (fun c j=>(V c j).1),t G2 d2,fun c j=>⟨Xc kS (Xc kq (V c j).1),(V c j).2⟩,fun c j=>Xc kS (Xc kq (d2 c j))⟩,.inr ⟨H,he⟩⟩
theorem ends_len{A:List Arc}{N s to:Nat}{al:Nat->Bool}{pi:Nat->Int}{σ:SS}{r:Fd}(f: ∀a∈A,a.t<N/\a.w<=cF)(l:N<=12)(m:A.length<=100)(g:Ends A al pi to σ r):Sv A N s al pi σ->σ.ev.length<=σ.O.length*200->r.arcs.length<=12/\r.ev.length<=3000:=by
 induction g with
 | @none σ n=>
   intro h b
   have:=h.len
   exact⟨Xf _,by show σ.ev.length<=3000;omega⟩
 | @hit σ k c=>
   intro h b
   have d:=h.len
   have e:=(h.bd to).2
   refine⟨by show(σ.P to).reverse.length<=12;rw [XZ];omega,?_⟩
   show(σ.ev++[_]).length<=3000
   simp;omega
 | @step σ v k r c i _ j=>
   intro h b
   obtain⟨d,e⟩:=h.next f c.1
   refine j d ?_
   have o:=yQ A al pi v (cP σ v)
   have p:(cP σ v).ev.length=σ.ev.length+1:=by show(σ.ev++[_]).length=_;simp
   rw [e.O]
   show _<=(σ.O++[v]).length*200
   simp;omega
end Go.Ab
end
section
namespace Go.Ab
open Go.Proofs
section
variable{A:List Arc}{N s:Nat}{al:Nat->Bool}{pi:Nat->Int}{σ:SS}
theorem Sv.als(h:Sv A N s al pi σ): ∀(n:Nat) {v:Nat},(σ.P v).length<=n->(v∈σ.O\/σ.K v≠none)-> ∀a∈σ.P v,a<A.length/\al a=true:=by
 intro n
 induction n with
 | zero=>
   grind
 | succ n d=>
   intro v e c a f
   rcases h.path v c with⟨rfl,g,_⟩|⟨b,i,j,_,k,l,_⟩
   . grind
   grind
end
end Go.Ab

end
section
namespace Go.Ab
end Go.Ab

end
section
namespace Go.Ab
open Go.Proofs
end Go.Ab

end
section
namespace Go.Ab
open Go.Proofs
set_option maxRecDepth 10000
def Tryz.FN:=aj t1<|aj t2<|aj t3<|aj t4<|aj t5<|aj t6<|aj Z0<|aj t32<|aj t34<|aj Z2<|aj t164<|aj Z1<|t209
theorem wnode_ok{h0:Hp}(b:h0.t.Sized h0.n){p:Value}{a:Gra}{d:Nat}(c:aS h0 d p a){v:Nat}(i:v<a.nodes):aM zL 80 [p,.int .i64 (v:Nat)] h0 (.bool true):=by
 have S:=Si b
 have e:(0:Int)<=(v:Int):=by omega
 have f:(v:Int)<(a.nodes:Int):=by omega
 refine ab (n:=13) (rs:=[.tmp 4]) rfl Tryz.e80 rfl rfl rfl (lbt rfl) ?_
 simp only [BS,LB,Nat.reduceLT,Nat.reduceEqDiff,e]
 refine am (ca S.ok c) ?_
 intro h g
 simp only [BS,LB,ae,Nat.reduceLT,Nat.reduceEqDiff,f]
 exact g
theorem wsteps_ok{h0:Hp}(k:h0.t.Sized h0.n){i s:Nat}{g:Value}(l:Fl g):Ret zL 81 [ptrTo i,.int .i64 (s:Nat),g] h0 fun r f=>Gr h0 f/\ ∃a b4 b5,r=.func (.func 136) #[] #[ptrTo b5,ptrTo a,ptrTo b4]/\h0.n<=a/\h0.n<=b4/\h0.n<=b5/\b4≠a/\b4≠b5/\f.load a 0 1=some [ptrTo i]/\Row f b4 [.int .i64 (s:Nat)] 1/\f.load b5 0 1=some [g]:=by
 have S:=Si k
 refine ab (n:=8) (rs:=[.tmp 6]) rfl Tryz.e81 rfl rfl rfl (lbt rfl) ?_
 simp only [BS,Nat.reduceLT]
 refine ag (bC (by exact cq)) S ?_;clear S;intro h a S b
 simp only [BS,Nat.reduceLT,Nat.reduceEqDiff,if_false]
 refine ag (bC (by exact aX)) S ?_;clear S;intro h b4 S c
 simp only [BS,Nat.reduceLT,Nat.reduceEqDiff,if_false]
 refine ag (bC (by assumption)) S ?_;clear S;intro h b5 S d
 simp only [BS,LB,ae,Nat.reduceLT,Nat.reduceEqDiff]
 have j:=S.apart
 exact⟨S.gr,a,b4,b5,rfl,b,c,d,fun e=>(by subst e;simp [keys]at j),fun e=>(by subst e;simp [keys]at j),S.ld m2 rfl,S.row m1,S.ld m0 rfl⟩
theorem steps_it{hq h0:Hp}(y:hq.t.Sized hq.n)(K:Gr hq h0){g:Gra}{nb Q:Nat}(hn:aS hq nb (ptrTo Q) g){L:Value}{d:List Nat}{s t w:Nat}(M:ar hq 1 bM L d)(hp:kw g.arcs s d t w)(hl:d.length<=1000){r b4 b5:Nat}
 (e3:h0.load r 0 1=some [ptrTo Q]) (e4:Row h0 b4 [.int .i64 (s:Nat)] 1) (e5:h0.load b5 0 1=some [L]) (d3:b4≠r) (d5:b4≠b5) (dq:hq.n<=b4):
 IterW zL 136 [ptrTo b5,ptrTo r,ptrTo b4] h0 (fun c=>c=b5\/c=r\/c<hq.n) (· =b4) (d.map fun(a:Nat)=>[.agg ⟨cG (g.arcs.getD a default)⟩,.bool true]):=by
 intro lb J Z hz Y hW h F j m z B
 have p:=K.ok
 obtain⟨p1,p2,p3⟩:=hp.at
 have f:Row h b4 [.int .i64 (s:Nat)] 1:=Row.of_get (m b4 rfl) e4
 have q5:=j.load p e5 (.inl rfl)
 have fI:=M.fl
 refine enter (n:=35) (rs:=[]) rfl Tryz.e136 rfl rfl rfl (lbt rfl) ?_
 simp only [BS,LB,Nat.reduceLT,FN,q5,M.lenq]
 refine aO (fun(i:Nat) q h=>i<=d.length/\ ∃F,ItS h0 (fun c=>c=b5\/c=r\/c<hq.n) h F/\b4∉F/\J i h F/\Row h b4 [.int .i64 (kz g.arcs s d i:Nat)] 1/\q 0=.func (.yield lb) #[] #[]/\q 2=ptrTo r/\q 3=ptrTo b4/\q 9=L/\q 10=.int .i64 (d.length:Nat)/\q 11=.int .i64 i) (fun i=>d.length-i) ?_ 0 _ _ ?_
 . clear q5 f B z m j F h
   intro i ih q h ⟨hi,F,j,z,B,f,r0,r2,r3,r9,r10,r11⟩
   have wi:an .i64 ((i:Int)+1)=((i+1:Nat):Int):=by rw [wrap64]<;>omega
   by_cases hlt:i<d.length
   . obtain⟨N,k⟩:=p1 i hlt
     have ea:d.getD i 0=d[i]:=by rw [zO,Xb hlt];rfl
     have R:kz g.arcs s d (i+1)=(g.arcs.getD d[i] default).t:=by
      unfold kz
      rw [if_neg (by omega),XG,ea]
     have T:(d.map fun(a:Nat)=>[Value.agg ⟨cG (g.arcs.getD a default)⟩,.bool true])[i]? =some [.agg ⟨cG (g.arcs.getD d[i] default)⟩,.bool true]:=by rw [Xi,Xb hlt];rfl
     rw [ea]at N k
     obtain⟨a,U⟩: ∃a,d[i]=a:=⟨_,rfl⟩
     have V:ar h 1 bM L d:=j.sl p (M.gr K) (fun b h=>.inr (.inr (M.lt y h)))
     obtain⟨c,o,x0,O⟩:=V.ix (kd:=.i64) cZ hlt
     rw [U]at O N k R T
     replace O:h.load c o 1=some [.int .i64 (a:Nat)]:=O
     have q3:=j.load p e3 (.inr (.inl rfl))
     have q4:=f.load1 (o:=0) rfl
     have nt:aS h nb (ptrTo Q) g:=hn.keep y (j.keep (Gr.keep K) K.n (fun c hc=>.inr (.inr hc)))
     have S:=Si j.ok
     have ga:g.arcs[a]=g.arcs.getD a default:=by simp [zO,N]
     have ax:=f.lt j.ok
     simp only [BS,LB,Nat.reduceLT,Nat.reduceEqDiff,FN,r2,r9,r10,r11,aB,hlt,x0,O,q3]
     refine step_ret (iU S.ok nt N) ?_
     rintro rv h ⟨W,rfl⟩
     replace S:=S.call W
     rw [ga]
     generalize hA:g.arcs.getD a default=A at k R T
     have C:(A.s:Int)=(kz g.arcs s d i:Int):=by rw [k]
     have X:(d.map fun(a:Nat)=>[Value.agg ⟨cG (g.arcs.getD a default)⟩,.bool true])[i]? =some [.agg ⟨[.int .i64 (kz g.arcs s d i:Nat),.int .i64 A.t,.int .i64 A.w]⟩,.bool true]:=by rw [T,<-k];rfl
     simp only [BS,LB,Nat.reduceLT,Nat.reduceEqDiff,FN,cG]
     refine ag aw S ?_;clear S;intro h D S aL
     simp only [BS,LB,Nat.reduceLT,Nat.reduceEqDiff]
     refine az (S.store (i:=0) rfl ?_ ?_ rfl rfl ?_ ono) ?_
     . exact(by exact Tryz.t108.2.1)
     . exact(by intro x e;cases e)
     . exact lbt rfl
     clear S;rintro h ⟨S,mo⟩;clear mo;simp only [LC,ah,lay,Xj,Xk,Nat.reduceAdd]at S
     have sA:=j.gr S.gr
     have jA:=Y.gr _ _ _ _ B S.gr
     have l:=f.gr S.gr
     have ad:=l.load1 (o:=0) rfl
     have R7:=S.row (b:=D) m0
     have n7:D∉F:=fun E=>by have:=j.lt _ E;have:=W.n;omega
     have k7:=R7.lt S.ok
     have d7:D≠b4:=fun e=>by have:=W.n;omega
     simp only [BS,LB,Nat.reduceLT,Nat.reduceEqDiff,FN,r0,r3,ad,C,XE,X2,XV,S.ld (b:=D) (o:=0) m0 rfl,S.lds (b:=D) (o:=0) (n:=3) m0 (lbt rfl)]
     refine cI Y sA jA (i:=i) X ?_ ?_ ?_
     . intro P F3 G u f3 af
       have H:Row P b4 [.int .i64 (kz g.arcs s d i:Nat)] 1:=f3.has (o:=.row _ 1) l z
       have ai:=f3.has (o:=.row _ 1) R7 n7
       have ak:b4∉F3:=fun E=>(af b4 E).elim z (fun h=>by have:=S.fr.n;omega)
       have al:=Row.load1 (o:=1) ai rfl
       have S:=St.init1 u.ok (o:=.row _ 1) H
       simp only [BS,LB,Nat.reduceLT,Nat.reduceEqDiff,FN,r3,al]
       refine az (ay S (i:=0) rfl Tryz.t3.2.2.1 aX (Xa (lbt rfl)) ono) ?_
       clear S;rintro h4 ⟨S,_⟩
       simp only [LC]at S
       have I:=S.fr
       simp only [BS,LB,Nat.reduceLT,Nat.reduceEqDiff,r11,wi]
       refine ih (i+1) _ _ (by omega) ⟨by omega,F3,?_,ak,hW _ _ _ _ G I,by rw [R];exact S.row m0,by simp [aa,r0],by simp [aa,r2,ac],by simp [aa,r3,ac],by simp [aa,r9],by simp [aa,r10],by simp [aa]⟩
       exact⟨I.ok,Xc u.n I.n,fun b m hd=>(I.get b (Xg m u.n) (by rcases hd with h|h|h;exact fun e=>d5 (by omega);exact fun e=>d3 (by omega);exact fun e=>by omega)).trans (u.data b m hd),u.apart,fun b m=>Xg (u.lt b m) I.n⟩
     . intro P G _
       simp only [BS,LB,Nat.reduceLT,Nat.reduceEqDiff]
       exact fi rfl ⟨rfl,.inr (.inl ⟨_,rfl,G⟩)⟩
     . intro v P G
       exact absurd G (hz v P)
   . simp only [BS,LB,Nat.reduceLT,r10,r11,aB,hlt]
     have:i=d.length:=by omega
     subst this
     exact bS (cJ ⟨rfl,_,rfl,rfl,.inl ⟨_,F,rfl,by rw [Xr];exact B⟩⟩)
 . exact⟨Xf _,F,j,fun E=>z b4 E rfl,B,f,by simp [aa,bJ],by simp [aa,bJ,ac],by simp [aa,bJ,ac],by simp [aa],by simp [aa],by simp [aa]⟩
def Tryz.Fv:=aj t1<|aj t2<|aj t3<|aj t4<|aj t5<|aj t6<|aj Z3<|aj Z4<|aj t9<|aj t10<|aj t11<|aj t12<|aj Z15<|aj t22<|aj t23<|aj Z0<|aj t32<|aj t34<|aj Z2<|aj t154<|aj t164<|Z1
theorem yV{h0:Hp}(W:h0.t.Sized h0.n){j:Gra}(I:Good j){nb Y:Nat}(Z:aS h0 nb (ptrTo Y) j){vI:Value}{d:List Nat}{s t w:Nat}(hs:s<j.nodes)(hI:ar h0 1 bM vI d)(hl:d.length<=1000){u:Nat}(hp:kw j.arcs s d u w)(hw:u=t\/(u≠t/\w=0)):
 Ret zL 31 [ptrTo Y,.int .i64 (s:Nat),.int .i64 (t:Nat),vI] h0 fun r z=>Gr h0 z/\r=.tuple #[.int .i64 (w:Nat),.bool (decide (u=t))]:=by
 have S:=Si W
 have fI:=hI.fl
 obtain⟨p1,p2,p3⟩:=hp.at
 refine ab (n:=40) (rs:=[.cell 8 2,.tmp 9]) rfl Tryz.e31 rfl rfl rfl (lbt rfl) ?_
 simp only [BS,Fv]
 refine ag aw S ?_;clear S;intro h l S ad
 simp only [BS,LB,Nat.reduceLT,Nat.reduceEqDiff]
 refine am (wnode_ok S.ok (Z.gr S.gr) hs) ?_
 intro h g;replace S:=S.call g;clear g
 simp only [BS,LB,Nat.reduceLT,Nat.reduceEqDiff,Fv]
 refine ag aw S ?_;clear S;intro h f S J
 simp only [BS,LB,Nat.reduceLT,Nat.reduceEqDiff]
 refine az (ay S (i:=0) rfl Tryz.t3.2.2.1 aX (Xa (lbt rfl)) ono) ?_
 clear S;rintro h ⟨S,_⟩
 simp only [LC]at S
 simp only [BS,LB,Nat.reduceLT,Nat.reduceEqDiff,run_label]
 have k0:=S.fr.n
 refine step_ret (wsteps_ok S.ok fI) ?_
 rintro r hA ⟨g,b3,K,b5,rfl,n3,n4,n5,d3,d5,y3,y4,y5⟩
 have k8:=(S.row (b:=l) m1).lt S.ok
 have ai:=(S.row (b:=f) m0).lt S.ok
 replace S:=S.call g
 have it:=steps_it W S.gr Z hI hp hl y3 y4 y5 d3 d5 (by omega)
 simp only [BS]
 refine fq S (g:=136) (a:=#[]) (b:=#[ptrTo b5,ptrTo b3,ptrTo K]) (by simp [bQ,aa,ac]) rfl rfl ?_
 intro h2 B C D ak al M
 have af:f≠K:=by omega
 have ax:l≠K:=by omega
 obtain⟨X,hX,D⟩: ∃X:eu,X=_/\St NoM h0 h2 [(C,.loop X),(B,.dfr),(f,.row [.int .i64 (s:Nat)] 1),(l,.row [.int .i64 0] 1)] []:=⟨_,rfl,D⟩
 have z0:kz j.arcs s d 0=s:=rfl
 have z1:sumA j.arcs d 0=0:=rfl
 have N:=y4.lt S.ok
 have hJ:Yld zL C (fun k z F=>St NoM h0 z [(C,.loop X),(B,.dfr),(f,.row [.int .i64 (kz j.arcs s d k:Nat)] 1),(l,.row [.int .i64 (sumA j.arcs d k:Nat)] 1)] []/\k<=d.length/\sumA j.arcs d k<=k*2147483647/\F=[C,B,f,l]) (fun _ _=>False) (d.map fun(a:Nat)=>[.agg ⟨cG (j.arcs.getD a default)⟩,.bool true]):=by
  refine⟨?_,?_,fun _ _ h=>h.elim,?_⟩
  . rintro i h F ⟨S,_,_,rfl⟩;exact⟨S.ok,fun b m=>S.key_lt (by simpa [keys]using m)⟩
  . rintro i h F z ⟨S,a,b,rfl⟩ gg;exact⟨S.call gg,a,b,rfl⟩
  . rintro i x hR F O ⟨S,a,m,rfl⟩
    have p:i<d.length:=by
     have:=(List.getElem?_eq_some_iff.1 O).1
     simpa using this
    rw [Xi,Xb p]at O
    cases O
    obtain⟨P,aL⟩:=p1 i p
    have ea:d.getD i 0=d[i]:=by rw [zO,Xb p];rfl
    have en:kz j.arcs s d (i+1)=(j.arcs.getD d[i] default).t:=by
     unfold kz
     rw [if_neg (by omega),XG,ea]
    have q:=sumA_succ (A:=j.arcs) p
    rw [ea]at q P
    have a0:(j.arcs.getD d[i] default).w<=2147483647:=by
     have:j.arcs.getD d[i] default∈j.arcs:=by rw [zO,Xb P];exact Xo P
     exact(I.arcs _ this).2.2
    have ws:an .i64 ((sumA j.arcs d i:Int)+((j.arcs.getD d[i] default).w:Int))=((sumA j.arcs d (i+1):Nat):Int):=by rw [q,wrap64]<;>omega
    subst hX
    refine fG (S.get m0) (by rw [Tryz.e31];rfl) rfl ?_
    have S0:=S
    replace S:=S.base
    simp only [BS,Fv,cG]
    refine ag aw S ?_;clear S;intro h E S Q
    simp only [BS,LB,Nat.reduceLT,Nat.reduceEqDiff]
    refine az (S.store (i:=0) rfl ?_ ?_ rfl rfl ?_ ono) ?_
    . exact(by exact Tryz.t108.2.1)
    . exact(by intro x e;cases e)
    . exact lbt rfl
    clear S;rintro h ⟨S,R⟩;clear R;simp only [LC,ah,lay,Xj,Xk,Nat.reduceAdd]at S
    simp only [BS,LB,Nat.reduceLT,Nat.reduceEqDiff]
    refine eH S (i:=1) rfl rfl rfl rfl rfl ?_
    clear S;intro h S
    simp only [LC]at S
    simp only [BS,LB,Nat.reduceLT,Nat.reduceEqDiff,Fv,ws,S.ld (b:=l) (o:=0) m4 rfl,S.ld (b:=E) (o:=2) m0 rfl]
    refine az (ay S (i:=4) rfl Tryz.t2.2.2.1 aX (Xa (lbt rfl)) ono) ?_
    clear S;rintro h ⟨S,_⟩
    simp only [LC]at S
    simp only [BS,LB,Nat.reduceLT,Nat.reduceEqDiff,Fv,S.ld (b:=E) (o:=1) m0 rfl]
    refine az (ay S (i:=3) rfl Tryz.t3.2.2.1 aX (Xa (lbt rfl)) ono) ?_
    clear S;rintro h ⟨S,_⟩
    simp only [LC]at S
    simp only [BS]
    refine dy S (i:=1) rfl ?_
    clear S;intro h S
    simp only [LC]at S
    rw [<-en]at S
    refine .inl ⟨rfl,_,⟨S0.rebase S.drop1,by omega,by omega,rfl⟩,?_,fun c G=>.inl G⟩
    have:=S.fr
    simp only [keys,XI,XN,Xv,XB]at this
    exact this
 refine eg (it C _ _ (fun _ _ h=>h) hJ ?_ h2 [C,B,f,l] ?_ (fun b m=>?_) (fun b m=>?_) ⟨by rw [z0,z1];exact D,Xf _,by rw [z1];exact Xf _,rfl⟩) fun o rc z y=>iq y ?_
 . rintro i h F z ⟨T,a,b,rfl⟩ R
   refine⟨T.step R (fun c G=>.inr (by subst G;omega)) (fun c G e=>?_),a,b,rfl⟩
   subst e
   simp only [keys,XI,XN,Xv,XB,Xq,Xl,or_false]at G
   omega
 . refine⟨D.ok,M.n,fun b m _=>M.get b m,fun b m h=>?_,fun b m=>D.key_lt (by simpa [keys]using m)⟩
   simp only [Xq,Xl,or_false]at m
   rcases m with rfl|rfl|rfl|rfl
   . omega
   . omega
   . rcases h.2 with e|e|e<;>omega
   . rcases h.2 with e|e|e<;>omega
 . subst m
   exact M.get _ N
 . intro e
   subst e
   simp only [Xq,Xl,or_false]at m
   omega
 . rintro F ⟨T,_,_,rfl⟩
   rw [Xr]at T
   rw [p2,p3]at T
   subst hX
   refine⟨_,T.get m0,XR,?_⟩
   replace T:=T.dead
   have S:=T
   have c0: ¬(u:Int)<0:=by omega
   have U: ¬(t:Int)<0:=by omega
   show Run _ _ _ _ _ _ _ _
   by_cases v:u=t
   . have V:(u:Int)=(t:Int):=by omega
     simp only [BS,LB,Nat.reduceLT,Nat.reduceEqDiff,Fv,U,V,S.ld (b:=f) (o:=0) m1 rfl,S.ld (b:=l) (o:=0) m2 rfl]
     refine az (ay T (i:=2) rfl Tryz.t2.2.2.1 aX (Xa (lbt rfl)) ono) ?_
     clear S;rintro h3 ⟨S,_⟩
     simp only [LC]at S
     simp only [BS]
     refine dp (eR [B] _ (L:=[(f,_),(l,_)]) S.base fun h4 H=>?_)
     refine⟨rfl,(cU (by decide) (by simp only [aK,ac,Nat.reduceEqDiff,reduceIte];exact gf Tryz.t2.2.1 (H.ld (b:=l) (o:=0) m1 rfl))).2 ((jw (by decide)).2 (dH.2 ⟨(S.rebase H).gr,?_⟩))⟩
     rw [decide_eq_true v];rfl
   . have V: ¬(u:Int)=(t:Int):=by omega
     have w0:w=0:=(hw.resolve_left v).2
     subst w0
     simp only [BS,LB,Nat.reduceLT,Nat.reduceEqDiff,Xw,Fv,c0,V,S.ld (b:=f) (o:=0) m1 rfl,S.ld (b:=l) (o:=0) m2 rfl]
     refine az (ay T (i:=2) rfl Tryz.t2.2.2.1 aX (Xa (lbt rfl)) ono) ?_
     clear S;rintro h3 ⟨S,_⟩
     simp only [LC]at S
     simp only [BS]
     refine dp (eR [B] _ (L:=[(f,_),(l,_)]) S.base fun h4 H=>?_)
     refine⟨rfl,(cU (by decide) (by simp only [aK,ac,Nat.reduceEqDiff,reduceIte];exact gf Tryz.t2.2.1 (H.ld (b:=l) (o:=0) m1 rfl))).2 ((jw (by decide)).2 (dH.2 ⟨(S.rebase H).gr,?_⟩))⟩
     rw [decide_eq_false v];rfl
theorem fold_ge(l:List Int)(a:Int):a<=l.foldl max a/\ ∀x∈l,x<=l.foldl max a:=by
 induction l generalizing a with
 |nil=>exact⟨Int.le_refl _,fun x h=>by cases h⟩
 | cons y e c=>
   obtain⟨f,d⟩:=c (max a y)
   refine⟨by rw [XC];omega,fun x b=>?_⟩
   rw [XC]
   rcases List.mem_cons.1 b with rfl|b
   . omega
   . exact d x b
theorem lmax_ge{l:List Int}{x:Int}(h:x∈l):x<=fh l:=by
 cases l with
 |nil=>cases h
 | cons y a=>
   rw [fh]
   rcases List.mem_cons.1 h with rfl|h
   . exact(fold_ge a _).1
   . exact(fold_ge a _).2 x h
theorem slB_of{h:Hp}{a n:Nat}{f:Nat->Bool}(R:Row h a (dB n f) 1):ar h 1 kP (.slice (some ⟨a,0,none⟩) n n) ((zM n).map f):=by
 refine .inr ⟨a,0,none,n,by simp,by simp,?_⟩
 rw [R.load (by rw [ry];simp),XE,List.take_of_length_le (by rw [ry];simp),List.flatMap_map]
 exact congrArg some XD
theorem alF_of{n:Nat}{f:Nat->Bool}{i:Nat}(a:i<n):alF ((zM n).map f) i=f i:=by
 unfold alF
 have:((zM n).map f).isEmpty=false:=by
  cases n with
  |zero=>omega
  |succ n=>simp [List.range_succ]
 rw [this,Bool.false_or]
 simp [zO,a]
end Go.Ab
end

/- Nets, cells, flags: what the functions do (part 5). -/
import Derived.Test.YtfdopodkngggfaaGreatDoorNetD
import Derived.ChangeSlices
import Derived.ChangeArms
import Derived.ChangeSame
open Go.Ab.Tryz
open Go.Ab.Tryz renaming abEnv->zM,e3E->Xz,e2E->X3
open List renaming getD_eq_getElem?_getD->zO,getElem?_eq_getElem->Xa,not_mem_nil->Xd,range->Xe,take->Xf,drop->Xg,mem_cons->Xi,getElem_mem->Xj,length_take->Xm,getElem?_map->Xo,all_cons->Xp,take_succ_cons->Xq,drop_zero->Xr,all_nil->Xt,take_zero->Xu,length_map->Xv,map_cons->XB,map_nil->XD,filterMap_nil->XE,take_succ_eq_append_getElem->XG,take_length->XH,range_succ->XI,length_range->XL,getElem?_cons_zero->XM,getElem?_cons_succ->XN,append_nil->XO,foldl_cons->XQ,map_append->XR,mem_append_right->XT,perm_append_comm->XU,flatMap_eq_foldl->XV,mem_cons_of_mem->XW,map_eq_flatMap->XX,getElem?_range->XY,length->X2
open Bool renaming and_true->Xb
open Nat renaming lt_of_succ_le->Xc,zero_le->Xh,lt_of_lt_of_le->Xn,mul_one->Xs,zero_mul->Xw,zero_add->Xx,mod_lt->XA,one_mul->XC,le_refl->XK,zero_ne_one->XP,min_eq_left->XS,le_trans->XZ
open Int renaming tmod_eq_emod_of_nonneg->Xk,cast_ofNat_Int->Xl,natCast_emod->Xy,eq_ofNat_of_zero_le->XF,le_refl->XJ
set_option maxHeartbeats 4000000
set_option linter.defProp false
set_option linter.unusedVariables false
set_option linter.unusedSimpArgs false
section
namespace Go.Ab
open Go.Proofs
set_option maxRecDepth 10000
def Tryz.FJ:=aj t1<|aj t2<|aj t3<|aj t4<|aj t5<|aj t6<|aj Z0<|aj t32<|aj t33<|aj Z2<|aj t149<|aj Z1<|t264
theorem wnode_ok{h0:Hp}(b:h0.t.Sized h0.n){p:Value}{a:Gra}{d:Nat}(c:aR h0 d p a){v:Nat}(i:v<a.nodes):aK zM 107 [p,.int .i64 (v:Nat)] h0 (.bool true):=by
 have S:=Si b
 have e:(0:Int)<=(v:Int):=by omega
 have f:(v:Int)<(a.nodes:Int):=by omega
 refine ab (n:=13) (rs:=[.tmp 4]) rfl Tryz.e107 rfl rfl rfl (lbt rfl) ?_
 simp only [BS,LB,Nat.reduceLT,Nat.reduceEqDiff,e]
 refine an (bV S.ok c) ?_
 intro h g
 simp only [BS,LB,ac,Nat.reduceLT,Nat.reduceEqDiff,f]
 exact g
theorem wsteps_ok{h0:Hp}(k:h0.t.Sized h0.n){i s:Nat}{g:Value}(l:Fl g):Ret zM 108 [ptrTo i,.int .i64 (s:Nat),g] h0 fun r f=>Gr h0 f/\ ∃a b4 b5,r=.func (.func 175) #[] #[ptrTo b5,ptrTo a,ptrTo b4]/\h0.n<=a/\h0.n<=b4/\h0.n<=b5/\b4≠a/\b4≠b5/\f.load a 0 1=some [ptrTo i]/\Row f b4 [.int .i64 (s:Nat)] 1/\f.load b5 0 1=some [g]:=by
 have S:=Si k
 refine ab (n:=8) (rs:=[.tmp 6]) rfl Tryz.e108 rfl rfl rfl (lbt rfl) ?_
 simp only [BS,Nat.reduceLT]
 refine ae (bF (by exact cI)) S ?_;clear S;intro h a S b
 simp only [BS,Nat.reduceLT,Nat.reduceEqDiff,if_false]
 refine ae (bF (by exact aU)) S ?_;clear S;intro h b4 S c
 simp only [BS,Nat.reduceLT,Nat.reduceEqDiff,if_false]
 refine ae (bF (by assumption)) S ?_;clear S;intro h b5 S d
 simp only [BS,LB,ac,Nat.reduceLT,Nat.reduceEqDiff]
 have j:=S.apart
 exact⟨S.gr,a,b4,b5,rfl,b,c,d,fun e=>(by subst e;simp [keys]at j),fun e=>(by subst e;simp [keys]at j),S.ld m2 rfl,S.row m1,S.ld m0 rfl⟩
theorem steps_it{hq h0:Hp}(y:hq.t.Sized hq.n)(K:Gr hq h0){g:Gra}{nb Q:Nat}(hn:aR hq nb (ptrTo Q) g){L:Value}{d:List Nat}{s t w:Nat}(M:au hq 1 bJ L d)(hp:kE g.arcs s d t w)(hl:d.length<=1000){r b4 b5:Nat}
 (e3:h0.load r 0 1=some [ptrTo Q]) (e4:Row h0 b4 [.int .i64 (s:Nat)] 1) (e5:h0.load b5 0 1=some [L]) (d3:b4≠r) (d5:b4≠b5) (dq:hq.n<=b4):
 IterW zM 175 [ptrTo b5,ptrTo r,ptrTo b4] h0 (fun c=>c=b5\/c=r\/c<hq.n) (· =b4) (d.map fun(a:Nat)=>[.agg ⟨cu (g.arcs.getD a default)⟩,.bool true]):=by
 intro lb J Z hz Y hW h F j m z B
 have p:=K.ok
 obtain⟨p1,p2,p3⟩:=hp.at
 have f:Row h b4 [.int .i64 (s:Nat)] 1:=Row.of_get (m b4 rfl) e4
 have q5:=j.load p e5 (.inl rfl)
 have fI:=M.fl
 refine enter (n:=35) (rs:=[]) rfl Tryz.e175 rfl rfl rfl (lbt rfl) ?_
 simp only [BS,LB,Nat.reduceLT,FJ,q5,M.lenq]
 refine aN (fun(i:Nat) q h=>i<=d.length/\ ∃F,ItS h0 (fun c=>c=b5\/c=r\/c<hq.n) h F/\b4∉F/\J i h F/\Row h b4 [.int .i64 (kh g.arcs s d i:Nat)] 1/\q 0=.func (.yield lb) #[] #[]/\q 2=ptrTo r/\q 3=ptrTo b4/\q 9=L/\q 10=.int .i64 (d.length:Nat)/\q 11=.int .i64 i) (fun i=>d.length-i) ?_ 0 _ _ ?_
 . clear q5 f B z m j F h
   intro i ih q h ⟨hi,F,j,z,B,f,r0,r2,r3,r9,r10,r11⟩
   have wi:ao .i64 ((i:Int)+1)=((i+1:Nat):Int):=by rw [wrap64]<;>omega
   by_cases hlt:i<d.length
   . obtain⟨N,k⟩:=p1 i hlt
     have ea:d.getD i 0=d[i]:=by rw [zO,Xa hlt];rfl
     have R:kh g.arcs s d (i+1)=(g.arcs.getD d[i] default).t:=by
      unfold kh
      rw [if_neg (by omega),Nat.add_sub_cancel,ea]
     have T:(d.map fun(a:Nat)=>[Value.agg ⟨cu (g.arcs.getD a default)⟩,.bool true])[i]? =some [.agg ⟨cu (g.arcs.getD d[i] default)⟩,.bool true]:=by rw [Xo,Xa hlt];rfl
     rw [ea]at N k
     obtain⟨a,U⟩: ∃a,d[i]=a:=⟨_,rfl⟩
     have V:au h 1 bJ L d:=j.sl p (M.gr K) (fun b h=>.inr (.inr (M.lt y h)))
     obtain⟨c,o,x0,O⟩:=V.ix (kd:=.i64) du hlt
     rw [U]at O N k R T
     replace O:h.load c o 1=some [.int .i64 (a:Nat)]:=O
     have q3:=j.load p e3 (.inr (.inl rfl))
     have q4:=f.load1 (o:=0) rfl
     have nt:aR h nb (ptrTo Q) g:=hn.keep y (j.keep (Gr.keep K) K.n (fun c hc=>.inr (.inr hc)))
     have S:=Si j.ok
     have ga:g.arcs[a]=g.arcs.getD a default:=by simp [zO,N]
     have aL:=f.lt j.ok
     simp only [BS,LB,Nat.reduceLT,Nat.reduceEqDiff,FJ,r2,r9,r10,r11,aB,hlt,x0,O,q3]
     refine step_ret (jM S.ok nt N) ?_
     rintro rv h ⟨W,rfl⟩
     replace S:=S.call W
     rw [ga]
     generalize hA:g.arcs.getD a default=A at k R T
     have C:(A.s:Int)=(kh g.arcs s d i:Int):=by rw [k]
     have X:(d.map fun(a:Nat)=>[Value.agg ⟨cu (g.arcs.getD a default)⟩,.bool true])[i]? =some [.agg ⟨[.int .i64 (kh g.arcs s d i:Nat),.int .i64 A.t,.int .i64 A.w]⟩,.bool true]:=by rw [T,<-k];rfl
     simp only [BS,LB,Nat.reduceLT,Nat.reduceEqDiff,FJ,cu]
     refine ae ax S ?_;clear S;intro h D S a0
     simp only [BS,LB,Nat.reduceLT,Nat.reduceEqDiff]
     refine az (S.store (i:=0) rfl ?_ ?_ rfl rfl ?_ ono) ?_
     . exact(by exact Tryz.t87.2.1)
     . exact(by intro x e;cases e)
     . exact lbt rfl
     clear S;rintro h ⟨S,mo⟩;clear mo;simp only [LC,ah,lay,Xf,Xg,Nat.reduceAdd]at S
     have sA:=j.gr S.gr
     have jA:=Y.gr _ _ _ _ B S.gr
     have l:=f.gr S.gr
     have ad:=l.load1 (o:=0) rfl
     have R7:=S.row (b:=D) m0
     have n7:D∉F:=fun E=>by have:=j.lt _ E;have:=W.n;omega
     have k7:=R7.lt S.ok
     have d7:D≠b4:=fun e=>by have:=W.n;omega
     simp only [BS,LB,Nat.reduceLT,Nat.reduceEqDiff,FJ,r0,r3,ad,C,Xr,Xq,Xu,S.ld (b:=D) (o:=0) m0 rfl,S.lds (b:=D) (o:=0) (n:=3) m0 (lbt rfl)]
     refine cy Y sA jA (i:=i) X ?_ ?_ ?_
     . intro P F3 G u f3 af
       have H:Row P b4 [.int .i64 (kh g.arcs s d i:Nat)] 1:=f3.has (o:=.row _ 1) l z
       have ai:=f3.has (o:=.row _ 1) R7 n7
       have ak:b4∉F3:=fun E=>(af b4 E).elim z (fun h=>by have:=S.fr.n;omega)
       have al:=Row.load1 (o:=1) ai rfl
       have S:=St.init1 u.ok (o:=.row _ 1) H
       simp only [BS,LB,Nat.reduceLT,Nat.reduceEqDiff,FJ,r3,al]
       refine az (ay S (i:=0) rfl Tryz.t3.2.2.1 aU (Xc (lbt rfl)) ono) ?_
       clear S;rintro h4 ⟨S,_⟩
       simp only [LC]at S
       have I:=S.fr
       simp only [BS,LB,Nat.reduceLT,Nat.reduceEqDiff,r11,wi]
       refine ih (i+1) _ _ (by omega) ⟨by omega,F3,?_,ak,hW _ _ _ _ G I,by rw [R];exact S.row m0,by simp [aa,r0],by simp [aa,r2,ag],by simp [aa,r3,ag],by simp [aa,r9],by simp [aa,r10],by simp [aa]⟩
       exact⟨I.ok,XZ u.n I.n,fun b m hd=>(I.get b (Xn m u.n) (by rcases hd with h|h|h;exact fun e=>d5 (by omega);exact fun e=>d3 (by omega);exact fun e=>by omega)).trans (u.data b m hd),u.apart,fun b m=>Xn (u.lt b m) I.n⟩
     . intro P G _
       simp only [BS,LB,Nat.reduceLT,Nat.reduceEqDiff]
       exact fk rfl ⟨rfl,.inr (.inl ⟨_,rfl,G⟩)⟩
     . intro v P G
       exact absurd G (hz v P)
   . simp only [BS,LB,Nat.reduceLT,r10,r11,aB,hlt]
     have:i=d.length:=by omega
     subst this
     exact bO (cB ⟨rfl,_,rfl,rfl,.inl ⟨_,F,rfl,by rw [Xv];exact B⟩⟩)
 . exact⟨Xh _,F,j,fun E=>z b4 E rfl,B,f,by simp [aa,bQ],by simp [aa,bQ,ag],by simp [aa,bQ,ag],by simp [aa],by simp [aa],by simp [aa]⟩
def Tryz.Fv:=aj t1<|aj t2<|aj t3<|aj t4<|aj t5<|aj t6<|aj Z3<|aj Z4<|aj t9<|aj t10<|aj t11<|aj t12<|aj Z14<|aj t22<|aj t23<|aj Z0<|aj t32<|aj t33<|aj Z2<|aj t149<|aj Z1<|t192
theorem wJ{h0:Hp}(W:h0.t.Sized h0.n){j:Gra}(I:Good j){nb Y:Nat}(Z:aR h0 nb (ptrTo Y) j){vI:Value}{d:List Nat}{s t w:Nat}(hs:s<j.nodes)(hI:au h0 1 bJ vI d)(hl:d.length<=1000){u:Nat}(hp:kE j.arcs s d u w)(hw:u=t\/(u≠t/\w=0)):
 Ret zM 52 [ptrTo Y,.int .i64 (s:Nat),.int .i64 (t:Nat),vI] h0 fun r z=>Gr h0 z/\r=.tuple #[.int .i64 (w:Nat),.bool (decide (u=t))]:=by
 have S:=Si W
 have fI:=hI.fl
 obtain⟨p1,p2,p3⟩:=hp.at
 refine ab (n:=40) (rs:=[.cell 8 2,.tmp 9]) rfl Tryz.e52 rfl rfl rfl (lbt rfl) ?_
 simp only [BS,Fv]
 refine ae ax S ?_;clear S;intro h l S ad
 simp only [BS,LB,Nat.reduceLT,Nat.reduceEqDiff]
 refine an (wnode_ok S.ok (Z.gr S.gr) hs) ?_
 intro h g;replace S:=S.call g;clear g
 simp only [BS,LB,Nat.reduceLT,Nat.reduceEqDiff,Fv]
 refine ae ax S ?_;clear S;intro h f S J
 simp only [BS,LB,Nat.reduceLT,Nat.reduceEqDiff]
 refine az (ay S (i:=0) rfl Tryz.t3.2.2.1 aU (Xc (lbt rfl)) ono) ?_
 clear S;rintro h ⟨S,_⟩
 simp only [LC]at S
 simp only [BS,LB,Nat.reduceLT,Nat.reduceEqDiff,run_label]
 have k0:=S.fr.n
 refine step_ret (wsteps_ok S.ok fI) ?_
 rintro r hA ⟨g,b3,K,b5,rfl,n3,n4,n5,d3,d5,y3,y4,y5⟩
 have k8:=(S.row (b:=l) m1).lt S.ok
 have ai:=(S.row (b:=f) m0).lt S.ok
 replace S:=S.call g
 have it:=steps_it W S.gr Z hI hp hl y3 y4 y5 d3 d5 (by omega)
 simp only [BS]
 refine fu S (g:=175) (a:=#[]) (b:=#[ptrTo b5,ptrTo b3,ptrTo K]) (by simp [bS,aa,ag]) rfl rfl ?_
 intro h2 B C D ak al M
 have af:f≠K:=by omega
 have aL:l≠K:=by omega
 obtain⟨X,hX,D⟩: ∃X:d9,X=_/\St NoM h0 h2 [(C,.loop X),(B,.dfr),(f,.row [.int .i64 (s:Nat)] 1),(l,.row [.int .i64 0] 1)] []:=⟨_,rfl,D⟩
 have z0:kh j.arcs s d 0=s:=rfl
 have z1:sumA j.arcs d 0=0:=rfl
 have N:=y4.lt S.ok
 have hJ:Yld zM C (fun k z F=>St NoM h0 z [(C,.loop X),(B,.dfr),(f,.row [.int .i64 (kh j.arcs s d k:Nat)] 1),(l,.row [.int .i64 (sumA j.arcs d k:Nat)] 1)] []/\k<=d.length/\sumA j.arcs d k<=k*2147483647/\F=[C,B,f,l]) (fun _ _=>False) (d.map fun(a:Nat)=>[.agg ⟨cu (j.arcs.getD a default)⟩,.bool true]):=by
  refine⟨?_,?_,fun _ _ h=>h.elim,?_⟩
  . rintro i h F ⟨S,_,_,rfl⟩;exact⟨S.ok,fun b m=>S.key_lt (by simpa [keys]using m)⟩
  . rintro i h F z ⟨S,a,b,rfl⟩ gg;exact⟨S.call gg,a,b,rfl⟩
  . rintro i x hR F O ⟨S,a,m,rfl⟩
    have p:i<d.length:=by
     have:=(List.getElem?_eq_some_iff.1 O).1
     simpa using this
    rw [Xo,Xa p]at O
    cases O
    obtain⟨P,a0⟩:=p1 i p
    have ea:d.getD i 0=d[i]:=by rw [zO,Xa p];rfl
    have en:kh j.arcs s d (i+1)=(j.arcs.getD d[i] default).t:=by
     unfold kh
     rw [if_neg (by omega),Nat.add_sub_cancel,ea]
    have q:=sumA_succ (A:=j.arcs) p
    rw [ea]at q P
    have a1:(j.arcs.getD d[i] default).w<=2147483647:=by
     have:j.arcs.getD d[i] default∈j.arcs:=by rw [zO,Xa P];exact Xj P
     exact(I.arcs _ this).2.2
    have ws:ao .i64 ((sumA j.arcs d i:Int)+((j.arcs.getD d[i] default).w:Int))=((sumA j.arcs d (i+1):Nat):Int):=by rw [q,wrap64]<;>omega
    subst hX
    refine fH (S.get m0) (by rw [Tryz.e52];rfl) rfl ?_
    have S0:=S
    replace S:=S.base
    simp only [BS,Fv,cu]
    refine ae ax S ?_;clear S;intro h E S Q
    simp only [BS,LB,Nat.reduceLT,Nat.reduceEqDiff]
    refine az (S.store (i:=0) rfl ?_ ?_ rfl rfl ?_ ono) ?_
    . exact(by exact Tryz.t87.2.1)
    . exact(by intro x e;cases e)
    . exact lbt rfl
    clear S;rintro h ⟨S,R⟩;clear R;simp only [LC,ah,lay,Xf,Xg,Nat.reduceAdd]at S
    simp only [BS,LB,Nat.reduceLT,Nat.reduceEqDiff]
    refine eI S (i:=1) rfl rfl rfl rfl rfl ?_
    clear S;intro h S
    simp only [LC]at S
    simp only [BS,LB,Nat.reduceLT,Nat.reduceEqDiff,Fv,ws,S.ld (b:=l) (o:=0) m4 rfl,S.ld (b:=E) (o:=2) m0 rfl]
    refine az (ay S (i:=4) rfl Tryz.t2.2.2.1 aU (Xc (lbt rfl)) ono) ?_
    clear S;rintro h ⟨S,_⟩
    simp only [LC]at S
    simp only [BS,LB,Nat.reduceLT,Nat.reduceEqDiff,Fv,S.ld (b:=E) (o:=1) m0 rfl]
    refine az (ay S (i:=3) rfl Tryz.t3.2.2.1 aU (Xc (lbt rfl)) ono) ?_
    clear S;rintro h ⟨S,_⟩
    simp only [LC]at S
    simp only [BS]
    refine dl S (i:=1) rfl ?_
    clear S;intro h S
    simp only [LC]at S
    rw [<-en]at S
    refine .inl ⟨rfl,_,⟨S0.rebase S.drop1,by omega,by omega,rfl⟩,?_,fun c G=>.inl G⟩
    have:=S.fr
    simp only [keys,XB,XD,XE,XO]at this
    exact this
 refine ef (it C _ _ (fun _ _ h=>h) hJ ?_ h2 [C,B,f,l] ?_ (fun b m=>?_) (fun b m=>?_) ⟨by rw [z0,z1];exact D,Xh _,by rw [z1];exact Xh _,rfl⟩) fun o rc z y=>iA y ?_
 . rintro i h F z ⟨T,a,b,rfl⟩ R
   refine⟨T.step R (fun c G=>.inr (by subst G;omega)) (fun c G e=>?_),a,b,rfl⟩
   subst e
   simp only [keys,XB,XD,XE,XO,Xi,Xd,or_false]at G
   omega
 . refine⟨D.ok,M.n,fun b m _=>M.get b m,fun b m h=>?_,fun b m=>D.key_lt (by simpa [keys]using m)⟩
   simp only [Xi,Xd,or_false]at m
   rcases m with rfl|rfl|rfl|rfl
   . omega
   . omega
   . rcases h.2 with e|e|e<;>omega
   . rcases h.2 with e|e|e<;>omega
 . subst m
   exact M.get _ N
 . intro e
   subst e
   simp only [Xi,Xd,or_false]at m
   omega
 . rintro F ⟨T,_,_,rfl⟩
   rw [Xv]at T
   rw [p2,p3]at T
   subst hX
   refine⟨_,T.get m0,XP,?_⟩
   replace T:=T.dead
   have S:=T
   have c0: ¬(u:Int)<0:=by omega
   have U: ¬(t:Int)<0:=by omega
   show Run _ _ _ _ _ _ _ _
   by_cases v:u=t
   . have V:(u:Int)=(t:Int):=by omega
     simp only [BS,LB,Nat.reduceLT,Nat.reduceEqDiff,Fv,U,V,S.ld (b:=f) (o:=0) m1 rfl,S.ld (b:=l) (o:=0) m2 rfl]
     refine az (ay T (i:=2) rfl Tryz.t2.2.2.1 aU (Xc (lbt rfl)) ono) ?_
     clear S;rintro h3 ⟨S,_⟩
     simp only [LC]at S
     simp only [BS]
     refine df (eQ [B] _ (L:=[(f,_),(l,_)]) S.base fun h4 H=>?_)
     refine⟨rfl,(cK (by decide) (by simp only [aJ,ag,Nat.reduceEqDiff,reduceIte];exact gu Tryz.t2.2.1 (H.ld (b:=l) (o:=0) m1 rfl))).2 ((jt (by decide)).2 (dD.2 ⟨(S.rebase H).gr,?_⟩))⟩
     rw [decide_eq_true v];rfl
   . have V: ¬(u:Int)=(t:Int):=by omega
     have w0:w=0:=(hw.resolve_left v).2
     subst w0
     simp only [BS,LB,Nat.reduceLT,Nat.reduceEqDiff,Xl,Fv,c0,V,S.ld (b:=f) (o:=0) m1 rfl,S.ld (b:=l) (o:=0) m2 rfl]
     refine az (ay T (i:=2) rfl Tryz.t2.2.2.1 aU (Xc (lbt rfl)) ono) ?_
     clear S;rintro h3 ⟨S,_⟩
     simp only [LC]at S
     simp only [BS]
     refine df (eQ [B] _ (L:=[(f,_),(l,_)]) S.base fun h4 H=>?_)
     refine⟨rfl,(cK (by decide) (by simp only [aJ,ag,Nat.reduceEqDiff,reduceIte];exact gu Tryz.t2.2.1 (H.ld (b:=l) (o:=0) m1 rfl))).2 ((jt (by decide)).2 (dD.2 ⟨(S.rebase H).gr,?_⟩))⟩
     rw [decide_eq_false v];rfl
theorem fold_ge(l:List Int)(a:Int):a<=l.foldl max a/\ ∀x∈l,x<=l.foldl max a:=by
 induction l generalizing a with
 |nil=>exact⟨XJ _,fun x h=>by cases h⟩
 | cons y e c=>
   obtain⟨f,d⟩:=c (max a y)
   refine⟨by rw [XQ];omega,fun x b=>?_⟩
   rw [XQ]
   rcases List.mem_cons.1 b with rfl|b
   . omega
   . exact d x b
theorem lmax_ge{l:List Int}{x:Int}(h:x∈l):x<=gb l:=by
 cases l with
 |nil=>cases h
 | cons y a=>
   rw [gb]
   rcases List.mem_cons.1 h with rfl|h
   . exact(fold_ge a _).1
   . exact(fold_ge a _).2 x h
theorem slB_of{h:Hp}{a n:Nat}{f:Nat->Bool}(R:Row h a (dy n f) 1):au h 1 encB (.slice (some ⟨a,0,none⟩) n n) ((Xe n).map f):=by
 refine .inr ⟨a,0,none,n,by simp,by simp,?_⟩
 rw [R.load (by rw [pZ];simp),Xr,List.take_of_length_le (by rw [pZ];simp),List.flatMap_map]
 exact congrArg some XX
theorem alF_of{n:Nat}{f:Nat->Bool}{i:Nat}(a:i<n):alF ((Xe n).map f) i=f i:=by
 unfold alF
 have:((Xe n).map f).isEmpty=false:=by
  cases n with
  |zero=>omega
  |succ n=>simp [XI]
 rw [this,Bool.false_or]
 simp [zO,a]
def Tryz.F5:=aj t1<|aj t2<|aj t3<|aj t4<|aj t5<|aj t6<|aj Z3<|aj Z4<|aj t9<|aj t10<|aj t11<|aj t12<|aj Z14<|aj Z20<|aj t15<|aj t16<|aj t17<|aj t18<|aj r18<|aj Z22<|aj t20<|aj t21<|aj t22<|aj t23<|aj t24<|aj t25<|aj r25<|aj t26<|aj r26<|aj t27<|aj r27<|aj Z8<|aj t29<|aj t30<|aj r30<|aj Z0<|aj t32<|aj t33<|aj t36<|aj t38<|aj r38<|aj t41<|aj t51<|aj t63<|aj t65<|aj r65<|aj t66<|aj t67<|aj Z11<|aj t71<|aj r71<|aj Z2<|aj t114<|aj Z5<|aj t149<|aj Z1<|aj Z6<|aj t229<|aj Z10<|aj t274<|aj t326<|aj Z17<|aj t340<|aj t342<|aj t344<|aj t345<|aj t346<|aj t347<|Z16
def rx(O:List Int)(i:Nat):Int:=if O.length=0 then 0 else(O.getD (i%O.length) 0).tmod 4
theorem vh {h0 :Hp} (ok:h0.t.Sized h0.n) {vB vO vM vF:Value} {f t:Nat} {xa:Int} {alt:Bool} {B O ms:List Int} (hB:SlW h0 .u8 vB B) (hO:SlW h0 .u8 vO O) (cO: ∀x∈O,0<=x/\x<=255) (hM:SlW h0 .u8 vM ms) (b3: ∀x∈ms,0<=x/\x<=255) (fF:Fl vF) (hf:f<=255) (ht:t<=255):
 Ret zM 21 [.agg ⟨[vB,vO,vM,.int .u8 (f:Nat),.int .u8 (t:Nat),.int .i8 xa,.bool alt,vF]⟩] h0 fun r L=>Gr h0 L/\ ∃a Y Z va bp nb bt nt l be m cf cb mb fp fb Mc Bt,
  r=.tuple #[.agg ⟨[.int .i64 a.nodes,Y,Z,va,ptrTo bp,ptrTo bt,be,ptrTo cb,ptrTo fp,.int .i64 (if alt=true then 5 else 4),.int .i64 ((f%a.nodes:Nat):Int),.int .i64 ((t%a.nodes:Nat):Int),.int .i64 (ao .i64 xa)]⟩,.bool true]/\Good a/\c8 L Y Z va a/\aR L nb (ptrTo bp) a/\
  TabAt L nt (ptrTo bt) a.nodes l (toR a l) (frR a l)/\fJ a.nodes l/\1<=l.length/\l.length<=4/\Fl be/\fm L mb (ptrTo cb) a.nodes m cf/\gb m+1=((Mc:Nat):Int)/\Mc<=100/\ik L fp fb Mc a.arcs.length ((a.arcs.length+7)/8) Bt/\OkB a cf ((a.arcs.length+7)/8) Mc 0 Bt:=by
 have S:=Si ok
 have fB:=hB.sl.fl
 have fO:=hO.sl.fl
 have fM:=hM.sl.fl
 have mn:min (B.length:Int) 60=((min B.length 60:Nat):Int):=by omega
 obtain⟨bf,b4,sB,bB⟩:=hB.low (kd':=.i64) (n:=min B.length 60) Tryz.t22.1 Tryz.t5.2.2.1 (Nat.min_le_left _ _)
 have b6:=sB.fl
 refine ab (n:=154) (rs:=[.cell 2 71,.tmp 3]) rfl Tryz.e21 rfl rfl rfl (lbt rfl) ?_
 simp only [BS,Nat.reduceLT]
 refine ae (bg (by intro x e;cases e)) S ?_;clear S;intro h u S de;simp only [ah]at S
 simp only [BS,F5]
 refine ae ax S ?_;clear S;intro h D S dj
 simp only [BS,LB,Nat.reduceLT,Nat.reduceEqDiff,Nat.reduceAdd,Option.map_some,Option.map_none,F5,hB.sl.lenq,mn,b4,b6,S.ld (b:=u) (o:=0) m1 rfl]
 refine ae (bg (by intro x e;cases e)) S ?_;clear S;intro h bd S bh;simp only [ah]at S
 have b7:au h 1 (encI .u8) bf (B.take (min B.length 60)):=sB.gr S.gr
 have nB: ¬ar bf bd:=fun A=>by have:=sB.lt ok A;omega
 have b8:(B.take (min B.length 60)).length<1000000:=by rw [Xm];omega
 simp only [BS,LB,Nat.reduceLT,Nat.reduceEqDiff]
 have k0:=S.fr.n
 have ap:=S.apart
 simp only [keys,XB,XD,XE,XO,List.nodup_cons,Xi,Xd,or_false,not_or]at ap
 have dx:=(S.row (b:=D) m1).lt S.ok
 have dF:=(S.row (b:=u) m2).lt S.ok
 refine step_ret (raw_ok S.ok (S.row m0) ⟨b7,nB,b8,by omega⟩) ?_
 rintro v h ⟨fr,a,Y,Z,va,rfl,Q,ga,hz⟩
 have gz: ∀c,(ar Y c\/ar Z c\/ar va c)->c≠u/\c≠D/\c<h.n:=fun c A=>⟨by have:=hz c A;omega,by have:=hz c A;omega,A.elim (ga.X.blt fr.ok) (fun h=>h.elim (ga.Y.blt fr.ok) (ga.A.blt fr.ok))⟩
 replace S:=S.drop1.step fr (fun c A=>by subst A;exact .inr bh) (fun c A e=>by simp [keys]at A;omega)
 have fx:=ga.X.fl
 have fy:=ga.Y.fl
 have fa:=ga.A.fl
 have n1:=Q.n1
 have n2:=Q.n2
 have dm:=Q.many
 have gS:=S.gr
 have S0:=S
 replace S:=S.base
 simp only [BS,F5,jh]
 refine ae ax S ?_;clear S;intro h z S dn
 simp only [BS,LB,Nat.reduceLT,Nat.reduceEqDiff]
 refine az (S.store (i:=0) rfl Tryz.t31.2.1 (by intro x e;cases e) rfl (by simp only [ah,Xp,Xt,fx.2.1,fy.2.1,fa.2.1,Xb];rfl) (lbt rfl) ono) ?_
 clear S;rintro h ⟨S,mo⟩
 simp only [LC,ah,lay,Xf,Xg,Nat.reduceAdd]at S
 have ai:=ga.mo S.fr (fun c A N=>by have:=hz c A;simp [keys]at N;omega)
 simp only [BS,LB,Nat.reduceLT,Nat.reduceEqDiff,F5,Xr,Xq,Xu,S.lds (b:=z) (o:=0) (n:=4) m0 (lbt rfl)]
 have q5:=(S.row (b:=z) m0).lt S.ok
 have q2:=(S.row (b:=D) m1).lt S.ok
 have q1:=(S.row (b:=u) m2).lt S.ok
 refine step_ret (netNew_ok S.ok Q ai) ?_
 rintro v h ⟨p,rfl,g,hp⟩
 replace S:=S.call g
 replace ai:=ai.gr g
 clear g
 obtain⟨bp,rfl⟩: ∃b,p=ptrTo b:=by obtain⟨b,_,_,_,_,_,e,_⟩:=hp.ex;exact⟨b,e⟩
 replace S:=S0.rebase S
 have a1:=S.gr
 have dO:=S.ok
 clear S0
 replace S:=S.base
 simp only [LC,keys,XB,XD,XE]at S
 rename Hp=>hC0
 have b9:=(S.row (b:=D) m1).lt S.ok
 have cc:ao .u8 ((f:Int).tdiv 16)=((f/16:Nat):Int):=by
  rw [Int.tdiv_eq_ediv_of_nonneg (by omega)]
  have:(f:Int)/16=((f/16:Nat):Int):=by omega
  rw [this]
  have e:ao .u8 (Int.ofNat (f/16))=Int.ofNat (f/16):=by
   unfold ao
   simp only [Go.Ab.hf,show Nat.blt (f/16) 256=true from Nat.ble_eq_true_of_le (by omega),cond_true]
  exact e
 have cg:ao .i64 ((f/16:Nat):Int)=((f/16:Nat):Int):=by rw [wrap64]<;>omega
 have nz:(a.nodes:Int)≠0:=by omega
 have bi:((f/16:Nat):Int).tmod (a.nodes:Int)=((f/16%a.nodes:Nat):Int):=by rw [Xk (by omega)];exact(Xy _ _).symm
 simp only [BS,LB,jc,ca,jg,Nat.reduceLT,Nat.reduceEqDiff,F5,lj (n:=16) (by decide),cc,cg,mT nz,bi,S.ld (b:=u) (o:=3) m2 rfl,S.ld (b:=z) (o:=0) m0 rfl]
 refine ae (bH (by exact Tryz.t33.1) (by exact Xz) (by decide) (by rfl)) S ?_;clear S;intro h bt S dq;simp only [LC,aT,bz,ah,Nat.reduceMul,Nat.reduceAdd,Xw,Xx,Xs,XC]at S
 have d0:f/16%a.nodes<a.nodes:=XA _ (by omega)
 generalize d1:((f/16%a.nodes:Nat):Int)=X at S
 have al:0<=X/\X<a.nodes:=by omega
 have ch: ∀c,ar vM c->c<h0.n:=fun c A=>hM.sl.lt ok A
 have cj: ∀c,ar vO c->c<h0.n:=fun c A=>hO.sl.lt ok A
 have nb: ∀c,c<h0.n-> ¬c∈[z,D,u]:=fun c A N=>by
  simp only [Xi,Xd,or_false]at N
  have:=gS.n
  omega
 have ck: ∀c,c∈[z,D,u]->h0.n<=c:=fun c N=>by
  simp only [Xi,Xd,or_false]at N
  have:=gS.n
  omega
 have bk: ∀c,(ar Y c\/ar Z c\/ar va c)-> ¬c∈[z,D,u]:=fun c A N=>by
  have:=gz c A
  simp only [Xi,Xd,or_false]at N
  omega
 simp only [BS,LB,Nat.reduceLT,Nat.reduceEqDiff]
 refine sC (fun s L=> ∃(F:Value) (l:List Int) (G:List GL),St (· ∈[z,D,u]) hC0 L [(bt,.row [.int .i64 X] 1),(z,.row [.int .i64 a.nodes,Y,Z,va] 1),(D,.row [.int .i64 0,.slice none 0 0,.slice none 0 0,.slice none 0 0,.pointer none,.pointer none,.slice none 0 0,.pointer none,.pointer none,.int .i64 0,.int .i64 0,.int .i64 0,.int .i64 0] 1),(u,.row [vB,vO,vM,.int .u8 (f:Nat),.int .u8 (t:Nat),.int .i8 xa,.bool alt,vF] 1)] G/\((G=[]/\F=.slice (some ⟨bt,0,none⟩) 1 1/\l=[X])\/G=[(F,1,ints l)])/\fJ a.nodes l/\1<=l.length/\l.length<=4/\s 1=ptrTo u/\s 2=ptrTo D/\s 5=ptrTo z/\s 6=ptrTo bp/\s 8=F)
  (fun(i:Nat) s L=>i<=ms.length/\i<=3/\ ∃(F:Value) (l:List Int) (G:List GL),St (· ∈[z,D,u]) hC0 L [(bt,.row [.int .i64 X] 1),(z,.row [.int .i64 a.nodes,Y,Z,va] 1),(D,.row [.int .i64 0,.slice none 0 0,.slice none 0 0,.slice none 0 0,.pointer none,.pointer none,.slice none 0 0,.pointer none,.pointer none,.int .i64 0,.int .i64 0,.int .i64 0,.int .i64 0] 1),(u,.row [vB,vO,vM,.int .u8 (f:Nat),.int .u8 (t:Nat),.int .i8 xa,.bool alt,vF] 1)] G/\((G=[]/\F=.slice (some ⟨bt,0,none⟩) 1 1/\l=[X])\/G=[(F,1,ints l)])/\fJ a.nodes l/\1<=l.length/\l.length<=i+1/\s 1=ptrTo u/\s 2=ptrTo D/\s 5=ptrTo z/\s 6=ptrTo bp/\s 8=F/\s 9=.int .i64 i) (fun i=>ms.length-i) ?_ ?_ 0 ?_
 . clear S
   intro i ih s L ⟨hi,hi3,F,l,G,S,hG,hl,hl1,hli,C,H,E,I,r8,T⟩
   have bl:=(hM.sl.gr a1).mo S.fr (fun c A=>nb c (ch c A))
   have a2: ∀(n:Nat) (d:List Deferred) (rc:Option (Value×Bool)) (y:Nat->Value),y 1=ptrTo u->y 2=ptrTo D->y 5=ptrTo z->y 6=ptrTo bp->y 8=F->JP n d rc (fun s L=> ∃(F:Value) (l:List Int) (G:List GL),St (· ∈[z,D,u]) hC0 L [(bt,.row [.int .i64 X] 1),(z,.row [.int .i64 a.nodes,Y,Z,va] 1),(D,.row [.int .i64 0,.slice none 0 0,.slice none 0 0,.slice none 0 0,.pointer none,.pointer none,.slice none 0 0,.pointer none,.pointer none,.int .i64 0,.int .i64 0,.int .i64 0,.int .i64 0] 1),(u,.row [vB,vO,vM,.int .u8 (f:Nat),.int .u8 (t:Nat),.int .i8 xa,.bool alt,vF] 1)] G/\((G=[]/\F=.slice (some ⟨bt,0,none⟩) 1 1/\l=[X])\/G=[(F,1,ints l)])/\fJ a.nodes l/\1<=l.length/\l.length<=4/\s 1=ptrTo u/\s 2=ptrTo D/\s 5=ptrTo z/\s 6=ptrTo bp/\s 8=F) .normal (LL n y d rc) L:=fun n d rc y e1 e2 e5 e6 e8=>iS ⟨F,l,G,S,hG,hl,hl1,by omega,e1,e2,e5,e6,e8⟩
   have sR:au L 1 (encI .i64) F l:=by
    rcases hG with⟨_,rfl,rfl⟩|rfl
    . exact .inr ⟨bt,0,none,1,rfl,XK _,S.lds (b:=bt) (o:=0) (n:=1*1) m0 (lbt rfl)⟩
    . exact(S.gown _ m0).1.sl rfl (fun _=>rfl) (by decide)
   by_cases hlt:i<ms.length
   . by_cases h3:i<3
     . have c3 :(i:Int)<3:=by omega
       obtain⟨c,o,ad,ak⟩:=bl.ix (kd:=.i64) (bG .u8) hlt
       have hx:=b3 _ (Xj hlt)
       obtain⟨x,ex⟩: ∃x:Nat,ms[i]=x:=⟨ms[i].toNat,by omega⟩
       rw [ex]at ak hx
       have wc:ao .i64 (x:Int)=(x:Int):=by rw [wrap64]<;>omega
       have tm:(x:Int).tmod (a.nodes:Int)=((x%a.nodes:Nat):Int):=by rw [Xk (by omega)];exact(Xy _ _).symm
       have P:x%a.nodes<a.nodes:=XA _ (by omega)
       have w:ao .i64 ((i:Int)+1)=((i+1:Nat):Int):=by rw [wrap64]<;>omega
       simp only [BS,LB,Nat.reduceLT,Nat.reduceEqDiff,F5,C,T,hM.sl.lenq,aB,hlt,c3,S.ld (b:=u) (o:=2) m3 rfl]
       refine av (aC rfl) (q:=0) (ps:=[]) (by kernel_rfl) ?_
       simp only [BS,LB,jc,ca,jg,cls,Nat.reduceLT,Nat.reduceEqDiff,Nat.reduceAdd,Nat.reducePow,Nat.reduceDiv,Nat.reduceMod,Nat.reduceLeDiff,F5,C,E,T,ad,ak,encI,wc,mT nz,tm,S.ld (b:=z) (o:=0) m1 rfl,S.ld (b:=u) (o:=2) m3 rfl]
       generalize x%a.nodes=v at P
       clear bl
       refine aN (fun(k:Nat) s h2=>k<=l.length/\h2=L/\s 1=ptrTo u/\s 2=ptrTo D/\s 5=ptrTo z/\s 6=ptrTo bp/\s 8=F/\s 9=.int .i64 i/\s 10=.int .i64 v/\s 11=.bool (decide ((v:Int)∈l.take k))/\s 12=.int .i64 k) (fun k=>l.length-k) ?_ 0 _ _ ?_
       . clear C H E I r8 T
         rintro k a3 s h2 ⟨hk,rfl,C,H,E,I,r8,T,V,J,af⟩
         have wk:ao .i64 ((k:Int)+1)=((k+1:Nat):Int):=by rw [wrap64]<;>omega
         by_cases R:k<l.length
         . have tk:l.take (k+1)=l.take k++[l[k]]:=XG R
           by_cases N:(v:Int)∈l.take k
           . rw [decide_eq_true N]at J
             have a4:(v:Int)∈l.take (k+1):=by rw [tk];exact List.mem_append_left _ N
             simp only [BS,LB,Nat.reduceLT,Nat.reduceEqDiff,F5,r8,J,af,sR.lenq,aB,R,wk]
             exact a3 (k+1) _ _ (by omega) ⟨by omega,rfl,by simp [aa,C,ag],by simp [aa,H,ag],by simp [aa,E,ag],by simp [aa,I,ag],by simp [aa,r8],by simp [aa,T],by simp [aa,V],by simp [aa,a4],by simp [aa]⟩
           . rw [decide_eq_false N]at J
             obtain⟨c1,o1,i1,y1⟩:=sR.ix (kd:=.i64) (bG .i64) R
             by_cases he:l[k]=(v:Int)
             . have a4:(v:Int)∈l.take (k+1):=by rw [tk,he];exact XT _ (List.mem_singleton.2 rfl)
               simp only [BS,LB,Nat.reduceLT,Nat.reduceEqDiff,F5,r8,V,J,af,sR.lenq,aB,R,wk,i1,y1,encI,he]
               exact a3 (k+1) _ _ (by omega) ⟨by omega,rfl,by simp [aa,C,ag],by simp [aa,H,ag],by simp [aa,E,ag],by simp [aa,I,ag],by simp [aa,r8],by simp [aa,T],by simp [aa,V],by simp [aa,a4],by simp [aa]⟩
             . have cl: ¬(v:Int)∈l.take (k+1):=by
                rw [tk]
                intro h
                rcases List.mem_append.1 h with h|h
                . exact N h
                . exact he (List.mem_singleton.1 h).symm
               simp only [BS,LB,Nat.reduceLT,Nat.reduceEqDiff,F5,r8,V,J,af,sR.lenq,aB,R,wk,i1,y1,encI,he]
               exact a3 (k+1) _ _ (by omega) ⟨by omega,rfl,by simp [aa,C,ag],by simp [aa,H,ag],by simp [aa,E,ag],by simp [aa,I,ag],by simp [aa,r8],by simp [aa,T],by simp [aa,V],by simp [aa,cl],by simp [aa]⟩
         . have ek:k=l.length:=by omega
           subst ek
           rw [XH]at J
           by_cases N:(v:Int)∈l
           . rw [decide_eq_true N]at J
             simp only [BS,LB,Nat.reduceLT,Nat.reduceEqDiff,F5,r8,T,J,af,sR.lenq,aB,R,w]
             exact ih (i+1) _ _ (by omega) ⟨by omega,by omega,F,l,G,S,hG,hl,hl1,by omega,by simp [aa,C,ag],by simp [aa,H,ag],by simp [aa,E,ag],by simp [aa,I,ag],by simp [aa,r8],by simp [aa]⟩
           . rw [decide_eq_false N]at J
             simp only [BS,LB,Nat.reduceLT,Nat.reduceEqDiff,F5,r8,T,V,J,af,sR.lenq,aB,R]
             refine ae (bH (by exact Tryz.t33.1) (by exact Xz) (by decide) (by rfl)) S ?_;clear S;intro h bu S ds;simp only [LC,aT,bz,ah,Nat.reduceMul,Nat.reduceAdd,Xw,Xx,Xs,XC]at S
             simp only [BS,LB,Nat.reduceLT,Nat.reduceEqDiff]
             have a5:aG h 1 (.slice (some ⟨bu,0,none⟩) 1 1)=some (1,ints [(v:Int)]):=by simp only [aG];rw [S.lds (b:=bu) (o:=0) (n:=1*1) m0 (lbt rfl)];rfl
             replace S:=S.drop1
             have bm: ∃h3 v',c6 zM h [33,33] F (.slice (some ⟨bu,0,none⟩) 1 1)=some (h3,v')/\St (· ∈[z,D,u]) hC0 h3 [(bt,.row [.int .i64 X] 1),(z,.row [.int .i64 a.nodes,Y,Z,va] 1),(D,.row [.int .i64 0,.slice none 0 0,.slice none 0 0,.slice none 0 0,.pointer none,.pointer none,.slice none 0 0,.pointer none,.pointer none,.int .i64 0,.int .i64 0,.int .i64 0,.int .i64 0] 1),(u,.row [vB,vO,vM,.int .u8 (f:Nat),.int .u8 (t:Nat),.int .i8 xa,.bool alt,vF] 1)] [(v',1,ints (l++[(v:Int)]))]:=by
              rcases hG with⟨rfl,rfl,rfl⟩|rfl
              . rw [gV]
                exact St.growB S (b:=bt) (len:=1) (m:=1) (new:=ints [(v:Int)]) (S.row m0) rfl Tryz.t33.1 Xz (by decide) Tryz.t33.2.2.2.2.2 a5 rfl (by decide) (by decide) (by rw [bU];exact lbt rfl)
              . rw [gV]
                exact S.grow (j:=0) (m:=1) (new:=ints [(v:Int)]) rfl Tryz.t33.1 Xz (by decide) Tryz.t33.2.2.2.2.2 a5 rfl (by decide) rfl (by rw [bU,bU];simp;omega)
             refine dz bm ?_
             clear S a5 hG bm sR a2;rintro h cn S
             simp only [BS,LB,Nat.reduceLT,Nat.reduceEqDiff,T,w]
             exact ih (i+1) _ _ (by omega) ⟨by omega,by omega,cn,l++[(v:Int)],_,S,.inr rfl,hl.push (by omega) (by omega) (by omega) N,by simp,by simp;omega,by simp [aa,C,ag],by simp [aa,H,ag],by simp [aa,E,ag],by simp [aa,I,ag],by simp [aa],by simp [aa]⟩
       . exact⟨Xh _,rfl,by simp [aa,C,ag],by simp [aa,H,ag],by simp [aa,E,ag],by simp [aa,I,ag],by simp [aa,r8],by simp [aa,T],by simp [aa],by simp [aa],by simp [aa]⟩
     . have c3: ¬(i:Int)<3:=by omega
       simp only [BS,LB,Nat.reduceLT,Nat.reduceEqDiff,F5,C,T,hM.sl.lenq,aB,hlt,c3,S.ld (b:=u) (o:=2) m3 rfl]
       exact a2 _ _ _ _ (by simp [aa,C,ag]) (by simp [aa,H,ag]) (by simp [aa,E,ag]) (by simp [aa,I,ag]) (by simp [aa,r8])
   . simp only [BS,LB,Nat.reduceLT,Nat.reduceEqDiff,F5,C,T,hM.sl.lenq,aB,hlt,S.ld (b:=u) (o:=2) m3 rfl]
     exact a2 _ _ _ _ (by simp [aa,C,ag]) (by simp [aa,H,ag]) (by simp [aa,E,ag]) (by simp [aa,I,ag]) (by simp [aa,r8])
 . clear S
   intro s L ⟨F,l,G,S,hG,hl,hl1,hl4,C,H,E,I,r8⟩
   have cp: ∀{x:Hp} {L':List (Nat×Ob)} {G':List GL},St (· ∈[z,D,u]) hC0 x L' G'->(bt,Ob.row [.int .i64 X] 1)∈L'->(∀p∈G,p∈G')->au x 1 (encI .i64) F l:=fun {x L' G'} U hL cr=>by
    rcases hG with⟨_,rfl,rfl⟩|rfl
    . exact .inr ⟨bt,0,none,1,rfl,XK _,U.lds (b:=bt) (o:=0) (n:=1*1) hL (lbt rfl)⟩
    . exact fG.sl (xs:=l) (enc:=encI .i64) (U.gown (F,1,ints l) (cr _ m0)).1 rfl (fun _=>rfl) (by decide)
   simp only [BS]
   replace S:=S.nilG (k:=1)
   refine aN (fun(i:Nat) s h=>i<=a.nodes/\ ∃vQ,St (· ∈[z,D,u]) hC0 h [(bt,.row [.int .i64 X] 1),(z,.row [.int .i64 a.nodes,Y,Z,va] 1),(D,.row [.int .i64 0,.slice none 0 0,.slice none 0 0,.slice none 0 0,.pointer none,.pointer none,.slice none 0 0,.pointer none,.pointer none,.int .i64 0,.int .i64 0,.int .i64 0,.int .i64 0] 1),(u,.row [vB,vO,vM,.int .u8 (f:Nat),.int .u8 (t:Nat),.int .i8 xa,.bool alt,vF] 1)] ((vQ,1,ints ((Xe i).map (rx O)))::G)/\s 1=ptrTo u/\s 2=ptrTo D/\s 5=ptrTo z/\s 6=ptrTo bp/\s 8=F/\s 13=vQ/\s 14=.int .i64 i) (fun i=>a.nodes-i) ?_ 0 _ _ ?_
   . clear S C H E I r8
     intro i ih s h ⟨hi,vQ,S,C,H,E,I,r8,r13,r14⟩
     have w:ao .i64 ((i:Int)+1)=((i+1:Nat):Int):=by rw [wrap64]<;>omega
     have cs:=(hO.sl.gr a1).mo S.fr (fun c A=>nb c (cj c A))
     by_cases hlt:i<a.nodes
     . by_cases bn:O.length=0
       . have c0: ¬(0:Int)<(O.length:Int):=by omega
         simp only [BS,LB,Nat.reduceLT,Nat.reduceEqDiff,F5,C,E,r13,r14,aB,hlt,hO.sl.lenq,c0,S.ld (b:=z) (o:=0) m1 rfl,S.ld (b:=u) (o:=1) m3 rfl]
         refine ae (bH (by exact Tryz.t33.1) (by exact Xz) (by decide) (by rfl)) S ?_;clear S;intro h bs S bo;simp only [LC,aT,bz,ah,Nat.reduceMul,Nat.reduceAdd,Xw,Xx,Xs,XC]at S
         simp only [BS,LB,Nat.reduceLT,Nat.reduceEqDiff]
         refine dz (S.grow (j:=0) (m:=1) (new:=ints [(0:Int)]) rfl Tryz.t33.1 Xz (by decide) Tryz.t33.2.2.2.2.2 (by simp only [aG];rw [S.lds (b:=bs) (o:=0) (n:=1*1) m0 (lbt rfl)];rfl) rfl (by decide) rfl (by rw [bU,bU];simp;omega)) ?_
         clear S
         rintro h a6 S
         simp only [LC]at S
         replace S:=S.drop1
         rw [<-gV]at S
         simp only [BS,LB,Nat.reduceLT,Nat.reduceEqDiff,r14,w]
         refine ih (i+1) _ _ (by omega) ⟨by omega,a6,?_,by simp [aa,C,ag],by simp [aa,H,ag],by simp [aa,E,ag],by simp [aa,I,ag],by simp [aa,r8],by simp [aa],by simp [aa]⟩
         rw [XI,XR,List.map_singleton,show rx O i=(0:Int)from by unfold rx;rw [if_pos bn]]
         exact S
       . have c0:(0:Int)<(O.length:Int):=by omega
         have P:i%O.length<O.length:=XA _ (by omega)
         have tm:(i:Int).tmod (O.length:Int)=((i%O.length:Nat):Int):=by rw [Xk (by omega)];exact(Xy _ _).symm
         obtain⟨c,o,ad,ak⟩:=cs.ix (kd:=.i64) (bG _) P
         have cz:(O.length:Int)≠0:=by omega
         have hx:=cO _ (Xj P)
         have t4:(O[i%O.length]).tmod 4=O[i%O.length]%4:=Xk hx.1
         have wc:ao .i64 ((O[i%O.length]).tmod 4)=(O[i%O.length]).tmod 4:=by rw [wrap64]<;>omega
         simp only [BS,LB,Nat.reduceLT,Nat.reduceEqDiff,F5,C,E,r14,aB,hlt,hO.sl.lenq,c0,S.ld (b:=z) (o:=0) m1 rfl,S.ld (b:=u) (o:=1) m3 rfl]
         refine av (aC rfl) (q:=0) (ps:=[]) (by kernel_rfl) ?_
         simp only [BS,LB,jc,ca,jg,cls,Nat.reduceLT,Nat.reduceEqDiff,Nat.reduceAdd,Nat.reducePow,Nat.reduceDiv,Nat.reduceMod,Nat.reduceLeDiff,F5,C,r13,r14,hO.sl.lenq,mT cz,tm,ad,ak,encI,mT (n:=4) (by decide),wc,S.ld (b:=u) (o:=1) m3 rfl]
         refine ae (bH (by exact Tryz.t33.1) (by exact Xz) (by decide) (by rfl)) S ?_;clear S;intro h bs S bo;simp only [LC,aT,bz,ah,Nat.reduceMul,Nat.reduceAdd,Xw,Xx,Xs,XC]at S
         simp only [BS,LB,Nat.reduceLT,Nat.reduceEqDiff]
         refine dz (S.grow (j:=0) (m:=1) (new:=ints [(O[i%O.length]).tmod 4]) rfl Tryz.t33.1 Xz (by decide) Tryz.t33.2.2.2.2.2 (by simp only [aG];rw [S.lds (b:=bs) (o:=0) (n:=1*1) m0 (lbt rfl)];rfl) rfl (by decide) rfl (by rw [bU,bU];simp;omega)) ?_
         clear S
         rintro h a6 S
         simp only [LC]at S
         replace S:=S.drop1
         rw [<-gV]at S
         simp only [BS,LB,Nat.reduceLT,Nat.reduceEqDiff,r14,w]
         refine ih (i+1) _ _ (by omega) ⟨by omega,a6,?_,by simp [aa,C,ag],by simp [aa,H,ag],by simp [aa,E,ag],by simp [aa,I,ag],by simp [aa,r8],by simp [aa],by simp [aa]⟩
         rw [XI,XR,List.map_singleton,show rx O i=(O[i%O.length]).tmod 4 from by unfold rx;rw [if_neg bn];simp [zO,P]]
         exact S
     . have cv:i=a.nodes:=by omega
       simp only [BS,LB,Nat.reduceLT,Nat.reduceEqDiff,F5,E,r13,r14,aB,hlt,S.ld (b:=z) (o:=0) m1 rfl]
       generalize hL:(Xe i).map (rx O)=Ls at S
       have lL:Ls.length=a.nodes:=by rw [<-hL];simp [cv]
       have bL:=lmax_bd (K:=((0+Ls.length:Nat):Int)) (by omega) (norm_bd [] Ls)
       have nl:=yA [] Ls
       have cx: ¬cellNo (norm [] Ls):=by
        rintro(h|h|h)
        . rw [h]at nl;simp at nl;omega
        . exact h (norm_idem [] Ls)
        . omega
       have sl:au h 1 (encI .i64) vQ Ls:=(S.gown _ m0).1.sl rfl (fun _=>rfl) (by decide)
       have d2:=S.fr.n
       refine step_ret (Av S.ok sl (by omega)) ?_
       rintro v1 hA ⟨g1,s1,q1⟩
       replace S:=S.call g1
       have d3:=g1.n
       simp only [BS,LB,Nat.reduceLT,Nat.reduceEqDiff]
       refine step_ret (Az S.ok s1 (by omega) (by omega)) ?_
       rintro v2 bq ⟨g2,cA⟩
       obtain⟨_,aL⟩:=cA.resolve_left (fun h=>cx h.1)
       replace S:=S.call g2
       obtain⟨cb,cL⟩: ∃b,v2=ptrTo b:=by obtain⟨b,_,e,_⟩:=aL;exact⟨b,e⟩
       subst cL
       have mz: ∀x∈norm [] Ls,0<=x:=fun x hx=>(norm_bd [] Ls x hx).1
       have lm:(norm [] Ls).length=a.nodes:=by omega
       obtain⟨cf,br⟩: ∃c:Nat->Nat,∀v,v<a.nodes->(norm [] Ls).getD v 0=(c v:Int):=⟨fun v=>((norm [] Ls).getD v 0).toNat,fun v hv=>by
        have bv:v<(norm [] Ls).length:=by omega
        have:=mz _ (Xj bv)
        have e:(norm [] Ls).getD v 0=(norm [] Ls)[v]:=by rw [zO,Xa bv,Option.getD_some]
        show(norm [] Ls).getD v 0=(((norm [] Ls).getD v 0).toNat:Int)
        rw [e];omega⟩
       have bx:fm bq _ (ptrTo cb) a.nodes (norm [] Ls) cf:=⟨aL,lm,br⟩
       obtain⟨Mc,bE⟩: ∃M:Nat,gb (norm [] Ls)+1=(M:Int):=⟨(gb (norm [] Ls)+1).toNat,by omega⟩
       have a7:=s1.fl
       have d4:=s1.gr g2
       have d5: ∀c,ar v1 c->hC0.n<=c:=fun c A=>by have:=q1 c A;omega
       have bP:=cp S m0 (fun p hp=>XW _ hp)
       have d6:=bP.fl
       have ba:=hp.mo S.fr (fun c N=>by simp only [Xi,Xd,or_false]at N;omega)
       have cT:=ai.mo S.fr (fun c A N=>bk c A N)
       simp only [BS,LB,Nat.reduceLT,Nat.reduceEqDiff,F5,C,S.ld (b:=u) (o:=6) m3 rfl]
       refine tt (fun y L=>L=bq/\y 1=ptrTo u/\y 2=ptrTo D/\y 5=ptrTo z/\y 6=ptrTo bp/\y 8=F/\y 13=v1/\y 16=ptrTo cb/\y 17=.int .i64 (if alt=true then 5 else 4)) ?_ ?_ ?_
       . rintro rfl
         simp only [BS,LB]
         exact iS ⟨rfl,by simp [aa,C,ag],by simp [aa,H,ag],by simp [aa,E,ag],by simp [aa,I,ag],by simp [aa,r8],by simp [aa],by simp [aa,ag],by simp [aa]⟩
       . rintro rfl
         simp only [BS,if_false,Bool.false_eq_true]
         exact iS ⟨rfl,by simp [aa,C,ag],by simp [aa,H,ag],by simp [aa,E,ag],by simp [aa,I,ag],by simp [aa,r8],by simp [aa],by simp [aa,ag],by simp [aa]⟩
       . clear C H E I r8 r13 r14
         rintro y L ⟨rfl,C,H,E,I,r8,r13,bb,bX⟩
         have wf:ao .i64 (f:Int)=(f:Int):=by rw [wrap64]<;>omega
         have wt:ao .i64 (t:Int)=(t:Int):=by rw [wrap64]<;>omega
         have cW:(f:Int).tmod (a.nodes:Int)=((f%a.nodes:Nat):Int):=by rw [Xk (by omega)];exact(Xy _ _).symm
         have cX:(t:Int).tmod (a.nodes:Int)=((t%a.nodes:Nat):Int):=by rw [Xk (by omega)];exact(Xy _ _).symm
         have bY:=S.ok
         have R1:=S.row (b:=u) m3
         have R5:=S.row (b:=z) m1
         have cY:=R1.load1 (o:=3) rfl
         have c2:=R1.load1 (o:=4) rfl
         have c4:=R1.load1 (o:=5) rfl
         have c7:=R5.load1 (o:=0) rfl
         have b0:=R5.load (o:=0) (n:=4) (XK 4)
         simp only [Xg,Xf]at b0
         have z5:=R5.lt bY
         have S0:=S
         clear S
         have S:=Si bY
         simp only [BS]
         refine av (oI (ord:=[17,0,1,2,3,4,5,6,7,8,9,10,11,12,13,14,15,16,18]) rfl rfl (by simp only [gk,reix,gw,XM,XN,List.map_toArray,XB,XD,Nat.reduceBEq,cond_true,cond_false];exact rfl)) (q:=1) (ps:=[]) (by kernel_rfl) ?_
         simp only [BS,LB,cls,Nat.reducePow,Nat.reduceDiv,Nat.reduceMod,Nat.reduceLeDiff,F5]
         refine eo ax S ?_;clear S;intro h bc S da db
         have gB:=S.gr
         have d7:=gB.n
         simp only [BS,LB,jc,ca,jg,cls,Nat.reduceLT,Nat.reduceEqDiff,Nat.reduceAdd,Nat.reducePow,Nat.reduceDiv,Nat.reduceMod,Nat.reduceLeDiff,F5,C,E,bX,wf,wt,mT nz,cW,cX,gB.load cY,gB.load c2,gB.load c4,gB.load c7]
         refine dB (S.store (i:=0) rfl Tryz.t28.2.1 (by intro x e;cases e) rfl rfl (lbt rfl) ono) ?_
         clear S;rintro hQ ⟨S,d8⟩
         simp only [LC,ah,lay,Xf,Xg,Nat.reduceAdd]at S
         simp only [BS,LB,Nat.reduceAdd]
         have dc:=(S.row (b:=bc) m0).lt S.ok
         have nQ:=S.fr.n
         refine av (aC rfl) (q:=0) (ps:=[(9,11),(4,11),(0,9),(0,4)]) (by kernel_rfl) ?_
         simp only [BS,LB,cls,Nat.reduceLT,Nat.reduceEqDiff,Nat.reduceAdd,Nat.reducePow,Nat.reduceDiv,Nat.reduceMod,Nat.reduceLeDiff,F5,E,I,r8,S.gr.load b0]
         refine dp (tabOf_ok S.ok Q (ba.gr S.gr) (bP.gr S.gr) (by omega)) ?_
         rintro pt h ⟨g5,hT⟩
         replace hT:=(hT.resolve_left (fun h=>h.1 hl)).2
         obtain⟨dd,et⟩: ∃b,pt=ptrTo b:=by obtain⟨b,_,_,_,e,_⟩:=hT.ex;exact⟨b,e⟩
         subst et
         have e1:=aA g5 (show z<_ by omega)
         have e2:=aA g5 dc
         have ea:=g5.n
         replace S:=S.call g5
         simp only [BS,LB,cls,Nat.reduceLT,Nat.reduceEqDiff,Nat.reduceAdd,Nat.reducePow,Nat.reduceDiv,Nat.reduceMod,Nat.reduceLeDiff,I,r13,bb]
         refine dp (ofB_ok S.ok Q (ba.gr S.gr) (bx.gr S.gr) bE (by omega)) ?_
         rintro r h ⟨g6,fp,fb,Bt,rfl,nf,eb,dt,BN,oB⟩
         have e3:=aA g6 (show z<_ by omega)
         have e4:=aA g6 (show bc<_ by omega)
         replace S:=S.call g6
         have a0:=S.lds (b:=bc) (o:=0) (n:=4) m0 (lbt rfl)
         simp only [Xg,Xf]at a0
         have gH:=S.gr
         have dv:D<hC0.n:=b9
         simp only [BS,LB,cls,Nat.reduceLT,Nat.reduceEqDiff,Nat.reduceAdd,Nat.reducePow,Nat.reduceDiv,Nat.reduceMod,Nat.reduceLeDiff,F5,H,bb,a0,a7]
         have S1:=S0.call gH
         refine dB (S1.store (i:=2) rfl Tryz.t71.2.1 (by intro x e;cases e) rfl (by simp only [ah,Xp,Xt,fx.2.1,fy.2.1,fa.2.1,a7.2.1,Xb];rfl) (lbt rfl) ono) ?_
         clear S S1;rintro h9 ⟨S,W⟩
         simp only [LC,ah,lay,Xf,Xg,Nat.reduceAdd]at S
         simp only [BS,LB,cls,ac,Nat.reduceLT,Nat.reduceEqDiff,Nat.reduceAdd,Nat.reducePow,Nat.reduceDiv,Nat.reduceMod,Nat.reduceLeDiff]
         refine⟨by simp only [a8,bC,aW,bI,aY,ne_eq,not_false_eq_true,bK,bZ,bj,aZ,bS,c9,aJ,Nat.reduceLT,Nat.reduceEqDiff,reduceIte,Xb,C,H,E,I,r8,r13,bb,bX,ag,lq,aQ e1,aM e1,aQ e2,aM e2,aQ e3,aM e3,aQ e4,aM e4],?_⟩
         refine(cK (by decide) (by simp only [aJ,H,ag,Nat.reduceEqDiff,reduceIte];exact cR Tryz.t71.1 Tryz.t71.2.1 (S.lds (b:=D) (o:=0) (n:=13) m2 (lbt rfl)))).2 ((jt (by decide)).2 (dD.2 ?_))
         have gZ:Gr h0 h9:=(a1.fr.trans S.fr (fun c A=>.inr (ck c A)):Mo NoM h0 h9).gr
         have nC:=S0.fr.n
         exact⟨gZ,a,Y,Z,va,bp,_,dd,_,l,v1,norm [] Ls,cf,cb,_,fp,fb,Mc,Bt,rfl,Q,(cT.gr gH).mo W (fun c A e=>bk c A (by simp [e])),(ba.gr gH).mo W (fun c e=>by subst e;omega),(hT.gr g6).mo W (fun c e=>by subst e;omega),hl,hl1,hl4,a7,⟨(bx.gr gH).at0.mo W (fun c e=>by subst e;omega),lm,br⟩,bE,by omega,⟨W.has (o:=.row _ 1) BN.r (fun e=>by omega),W.has (o:=.row _ 1) BN.b (fun e=>by omega),BN.lt⟩,oB⟩
   . exact⟨Xh _,_,S,by simp [aa,C,ag],by simp [aa,H,ag],by simp [aa,E,ag],by simp [aa,I,ag],by simp [aa,r8],by simp [aa],by simp [aa]⟩
 . refine⟨Xh _,Xh _,_,[X],[],S,.inl ⟨rfl,rfl,rfl⟩,(mayL_nil _).push (by simp) al.1 al.2 (by simp),by simp,by simp,by simp [aa,ag],by simp [aa,ag],by simp [aa,ag],by simp [aa,ag],by simp [aa],by simp [aa]⟩
def Tryz.F0O:=aj t1<|aj t2<|aj t3<|aj t33<|aj t51<|aj t114<|Z5
def Tryz.F1r:=aj t1<|aj t2<|aj t3<|aj t4<|t33
def Tryz.F1s:=aj t3<|aj t33<|t161
def Tryz.F1t:=aj t1<|aj t2<|aj t3<|aj t33<|t161
def Tryz.F0P:=aj t1<|aj t2<|aj t3<|aj t4<|aj t5<|aj t6<|aj Z3<|aj t33<|aj t51<|aj t114<|aj Z5<|t161
def keyB(N n:Nat)(R Q:Nat->List Int)(s w:Int)(i:Nat):Int:=fh N n R Q i s w
def lO(N n:Nat)(R Q:Nat->List Int)(s w a:Int):List Nat:=(iP (keyB N n R Q s w) (n-1) (Xe n)).take (min (max a 1).toNat n)
theorem Af{hq:Hp}{m N:Nat}{p:Value}{l:List Int}{R Q:Nat->List Int}(t:TabAt hq m p N l R Q)(f: ∀i,i<l.length->(R i).length=N)(k: ∀i,i<l.length->(Q i).length=N)(o:l.length<1000){s w:Int}{b4 b5 b6:Nat}(c:hq.load b4 0 1=some [p])(d:hq.load b5 0 1=some [.int .i64 s])(e:hq.load b6 0 1=some [.int .i64 w]):
 CmpF zM hq 81 [ptrTo b4,ptrTo b5,ptrTo b6] l.length (keyB N l.length R Q s w):=by
 intro h g i j C D
 have E:Fl p:=by obtain⟨b,_,_,_,rfl,_⟩:=t.ex;exact cI
 have S:=Si g.ok
 have r:=bD g.ok (g.load c)
 have u:=bD g.ok (g.load d)
 have v:=bD g.ok (g.load e)
 refine ab (n:=19) (rs:=[.tmp 7]) rfl Tryz.e81 rfl rfl rfl (lbt rfl) ?_
 simp only [BS,LB]
 refine av (aC rfl) (q:=0) (ps:=[(4,8),(4,7),(4,5)]) (by kernel_rfl) ?_
 simp only [BS,LB,cls,Nat.reduceLT,Nat.reduceEqDiff,Nat.reduceAdd,Nat.reducePow,Nat.reduceDiv,Nat.reduceMod,Nat.reduceLeDiff,F0O,g.load c,g.load d,g.load e]
 refine cw (uC S.ok ((t.gr g).gr S.gr) f k o) ?_
 intro F a
 have x:=aA a r
 have y:=aA a u
 have z:=aA a v
 replace S:=S.call a
 simp only [BS,LB,cls,Nat.reduceLT,Nat.reduceEqDiff,Nat.reduceAdd,Nat.reducePow,Nat.reduceDiv,Nat.reduceMod,Nat.reduceLeDiff,F0O,a.load (g.load c),a.load (g.load d),a.load (g.load e)]
 refine cw (uC S.ok ((t.gr g).gr S.gr) f k o) ?_
 intro G A
 replace S:=S.call A
 simp only [BS,LB,cls,Nat.reduceLT,Nat.reduceEqDiff,Nat.reduceAdd,Nat.reducePow,Nat.reduceDiv,Nat.reduceMod,Nat.reduceLeDiff]
 refine cw (yx S.ok) ?_
 intro H B
 replace S:=S.call B
 simp only [BS,LB,cls,ac,Nat.reduceLT,Nat.reduceEqDiff,Nat.reduceAdd,Nat.reducePow,Nat.reduceDiv,Nat.reduceMod,Nat.reduceLeDiff]
 refine⟨by simp only [a8,bC,aW,bI,aY,ne_eq,not_false_eq_true,bK,bZ,bj,aZ,bS,c9,aJ,Nat.reduceLT,Nat.reduceEqDiff,reduceIte,Xb,ag,bQ,aQ x,aQ y,aQ z],?_⟩
 exact⟨rfl,S.gr⟩
theorem insNil_ok{h0:Hp}(a:h0.t.Sized h0.n){v:Value}:aK zM 228 [.slice none 0 0,.int .i64 0,.int .i64 0,v] h0 (.tuple #[]):=by
 have S:=Si a
 have b:ao .i64 1=1:=rfl
 have c: ¬(1:Int)<0:=by decide
 refine ab (n:=53) (rs:=[]) rfl Tryz.e228 rfl rfl rfl (lbt rfl) ?_
 simp only [BS,LB,Nat.reduceLT,Nat.reduceEqDiff,Int.reduceAdd,b]
 rw [bW]
 simp only [BS,LB,ac,Nat.reduceLT,Nat.reduceEqDiff,c]
 exact S.gr
theorem yW{h0:Hp}(c:h0.t.Sized h0.n){m:Nat}{g:FuncId}{post:Array Value}:aK zM 80 [.slice none 0 0,.int .i64 (m:Nat),.func (.func g) #[] post] h0 (.slice none 0 0):=by
 have S:=Si c
 have d:aK zM 44 [.slice none 0 0] h0 (.slice none 0 0):=by
  refine ab (n:=8) (rs:=[.tmp 2]) rfl Tryz.e44 rfl rfl rfl (lbt rfl) ?_
  simp only [BS,LB,ac,Nat.reduceLT,Nat.reduceEqDiff,F1r]
  exact S.gr
 have e:min (m:Int) 0=0:=by omega
 have f: ¬(20:Int)<=0:=by decide
 have i: ¬(20:Int)<0:=by decide
 have j: ∀{h:Hp},h.t.Sized h.n->aK zM 152 [.slice none 0 0,.func (.func g) #[] post] h (.tuple #[]):=fun {h} a=>by
  have S:=Si a
  have k:aK zM 207 [.slice none 0 0,.int .i64 0,.func (.func g) #[] post] h (.tuple #[]):=by
   refine ab (n:=63) (rs:=[]) rfl Tryz.e207 rfl rfl rfl (lbt rfl) ?_
   simp only [BS,LB,Nat.reduceLT,Nat.reduceEqDiff]
   rw [bW]
   simp only [BS,LB,Nat.reduceLT,Nat.reduceEqDiff,f]
   refine an (insNil_ok S.ok) ?_;intro h g;replace S:=S.call g;clear g
   simp only [BS]
   rw [bW]
   simp only [BS,LB,ac,Nat.reduceLT,Nat.reduceEqDiff,i]
   exact S.gr
  refine ab (n:=9) (rs:=[]) rfl Tryz.e152 rfl rfl rfl (lbt rfl) ?_
  simp only [BS,LB,Nat.reduceLT,Nat.reduceEqDiff,Xl,F1s]
  refine an k ?_;intro p l;replace S:=S.call l
  simp only [BS,LB,ac]
  exact S.gr
 have o:fi zM 33 (.slice none 0 0) none (some (.int .i64 0)) none=some (.slice none 0 0):=by
  simp only [fi,Tryz.t33.1,Tryz.t3.2.2.1,eR,eC]
  rfl
 refine ab (n:=18) (rs:=[.tmp 6]) rfl Tryz.e80 rfl rfl rfl (lbt rfl) ?_
 simp only [BS,LB,Nat.reduceLT,Nat.reduceEqDiff]
 refine an d ?_;intro h b;replace S:=S.call b
 simp only [BS,LB,Nat.reduceLT,Nat.reduceEqDiff]
 refine an (j S.ok) ?_;intro h b;replace S:=S.call b
 simp only [BS,LB,ac,Nat.reduceLT,Nat.reduceEqDiff,Xl,Option.map_some,Option.map_none,F1t,e,o]
 exact S.gr
theorem zH{h0:Hp}(K:h0.t.Sized h0.n){m N:Nat}{p:Value}{l:List Int}{R Q:Nat->List Int}(t:TabAt h0 m p N l R Q)(L: ∀i,i<l.length->(R i).length=N)(M: ∀i,i<l.length->(Q i).length=N)(Z:l.length<=16){s w a:Int}:
 Ret zM 37 [p,.int .i64 s,.int .i64 w,.int .i64 a] h0 fun r z=>Gr h0 z/\au z 1 bJ r (lO N l.length R Q s w a)/\ ∀c,ar r c->h0.n<=c:=by
 have S:=Si K
 have fp:Fl p:=by obtain⟨b,_,_,_,rfl,_⟩:=t.ex;exact cI
 obtain⟨mk,f⟩: ∃k:Nat,max a 1=(k:Int):=⟨(max a 1).toNat,by omega⟩
 have q:(max a 1).toNat=mk:=by omega
 refine ab (n:=27) (rs:=[.tmp 8]) rfl Tryz.e37 rfl rfl rfl (lbt rfl) ?_
 simp only [BS,Nat.reduceLT]
 refine ae (bF (by assumption)) S ?_;clear S;intro h b4 S E
 simp only [BS,Nat.reduceLT,Nat.reduceEqDiff,if_false]
 refine ae (bF (by exact aU)) S ?_;clear S;intro h b5 S F
 simp only [BS,Nat.reduceLT,Nat.reduceEqDiff,if_false]
 refine ae (bF (by exact aU)) S ?_;clear S;intro h b6 S G
 simp only [BS,LB,Nat.reduceLT,Nat.reduceEqDiff,F0P,S.ld (b:=b4) (o:=0) m2 rfl]
 have k0:=S.fr.n
 refine step_ret (mS S.ok (t.gr S.gr) (by omega)) ?_
 rintro r h ⟨g,O,A⟩
 replace S:=S.call g
 simp only [BS,LB,Nat.reduceLT,Nat.reduceEqDiff,F0P,O.lenq]
 replace S:=S.nilG (k:=1)
 refine aN (fun(i:Nat) d h=>i<=l.length/\ ∃u,St NoM h0 h [(b6,.row [.int .i64 w] 1),(b5,.row [.int .i64 s] 1),(b4,.row [p] 1)] [(u,1,eH (Xe i))]/\(i=0->u=.slice none 0 0)/\d 3=.int .i64 a/\d 4=ptrTo b4/\d 5=ptrTo b5/\d 6=ptrTo b6/\d 9=u/\d 13=.int .i64 (l.length:Nat)/\d 14=.int .i64 i) (fun i=>l.length-i) ?_ 0 _ _ ?_
 . clear S
   intro i P d h ⟨hi,u,S,hv,r3,r4,r5,r6,r9,r13,r14⟩
   have T:ao .i64 ((i:Int)+1)=((i+1:Nat):Int):=by rw [wrap64]<;>omega
   by_cases hlt:i<l.length
   . simp only [BS,LB,Nat.reduceLT,Nat.reduceEqDiff,r9,r13,r14,aB,hlt]
     refine ae (bH (by exact Tryz.t33.1) (by exact Xz) (by decide) (by rfl)) S ?_;clear S;intro h H S I;simp only [LC,aT,bz,ah,Nat.reduceMul,Nat.reduceAdd,Xw,Xx,Xs,XC]at S
     simp only [BS,LB,Nat.reduceLT,Nat.reduceEqDiff]
     have v:aG h 1 (.slice (some ⟨H,0,none⟩) 1 1)=some (1,[.int .i64 (i:Nat)]):=by simp only [aG];rw [S.lds (b:=H) (o:=0) (n:=1*1) m0 (lbt rfl)];rfl
     replace S:=S.drop1
     refine dz (S.grow (j:=0) (m:=1) (new:=[.int .i64 (i:Nat)]) rfl Tryz.t33.1 Xz (by decide) Tryz.t33.2.2.2.2.2 v rfl (by decide) rfl (by rw [lW];simp;omega)) ?_
     clear S v;rintro h B S
     simp only [LC]at S
     have e:eH (Xe i)++[.int .i64 (i:Nat)]=eH (Xe (i+1)):=by unfold eH;rw [XI,XR];rfl
     rw [e]at S
     simp only [BS,LB,Nat.reduceLT,Nat.reduceEqDiff,r14,T]
     exact P (i+1) _ _ (by omega) ⟨by omega,B,S,fun h=>(by omega),by simp [aa,r3],by simp [aa,r4,ag],by simp [aa,r5,ag],by simp [aa,r6,ag],by simp [aa],by simp [aa,r13],by simp [aa]⟩
   . have U:i=l.length:=by omega
     subst U
     simp only [BS,LB,Nat.reduceLT,Nat.reduceEqDiff,r3,r4,r5,r6,r9,r13,r14,aB,hlt]
     by_cases C:l.length=0
     . have V:=hv C
       subst V
       have J:=S.fr.n
       rw [f]
       refine an (yW S.ok) ?_
       intro z g
       replace S:=S.call g
       simp only [BS,LB,ac,Nat.reduceLT,Nat.reduceEqDiff]
       refine⟨S.gr,.inl ⟨rfl,?_⟩,fun c A=>A.elim⟩
       unfold lO
       rw [C];simp
     . have W:au h 1 bJ u (Xe l.length):=(S.gown _ m0).1.sl (rq _).symm du (by decide)
       have J:=S.fr.n
       have X:=Af (t.gr S.gr) L M (by omega) (s:=s) (w:=w) (b4:=b4) (b5:=b5) (b6:=b6) (S.ld m2 rfl) (S.ld m1 rfl) (S.ld m0 rfl)
       rw [f]
       refine step_ret (first_ok (N:=l.length) (m:=mk) (Gr.refl S.ok) W (by intro e;have:=congrArg X2 e;rw [XL]at this;exact C this) (by simp;omega) (fun x Y=>List.mem_range.1 Y) X (by omega)) ?_
       rintro r z ⟨g,y,D⟩
       replace S:=S.call g
       simp only [BS,LB,ac,Nat.reduceLT,Nat.reduceEqDiff]
       rw [XL]at y
       exact⟨S.gr,by unfold lO;rw [q];exact y,fun c A=>XZ J (D c A)⟩
 . exact⟨Xh _,_,S,fun _=>rfl,by simp [aa,bQ],by simp [aa,ag],by simp [aa,ag],by simp [aa,ag],by simp [aa],by simp [aa],by simp [aa]⟩
theorem vw{x:Option Tch}:jm none x=true:=by cases x<;>rfl
structure TabO(E:Env)(h0:Hp)(pt:Value)(nd mk:Nat)(gM gN:FuncId):Prop where
 fl:Fl pt
 marks: ∀h,Gr h0 h->Ret E gM [pt] h fun r h'=>Gr h h'/\ ∃l:List Int,au h' 1 (encI .i64) r l/\l.length=mk
 nodes: ∀h,Gr h0 h->aK E gN [pt] h (.int .i64 (nd:Nat))
def Tryz.F0Q:=aj t1<|aj t2<|aj t3<|aj t4<|aj t33<|aj t51<|aj t114<|aj Z5<|aj t181<|t234
def Tryz.F1u:=aj t1<|aj t2<|aj t3<|aj t33<|aj t51<|aj t114<|Z5
def Tryz.FK:=aj t1<|aj t2<|aj t3<|aj t4<|aj t5<|aj t6<|aj t9<|aj t15<|aj t17<|aj t24<|aj t33<|aj t51<|aj t114<|aj Z5<|aj t178<|aj t181<|Z17
theorem ie.keep{h e:Hp}{m n:Nat}{v:Value}{R:Nat->List Int}(f:h.t.Sized h.n)(g:dT h e)(r:ie h m v n R):ie e m v n R:=by
 obtain⟨k,a,b,c,d⟩:=r
 exact⟨k,a.keep f g,b,c,fun i w j=>⟨(d i w j).1.keep f g,(d i w j).2⟩⟩
theorem TabAt.keep{h c:Hp}{m N:Nat}{p:Value}{l:List Int}{R Q:Nat->List Int}(a:h.t.Sized h.n)(g:dT h c)(t:TabAt h m p N l R Q):TabAt c m p N l R Q:=by
 obtain⟨b,d,f,i,e,j,k,n,o,q,r⟩:=t.ex
 exact⟨b,d,f,i,e,g.row a j,k.keep a g,n.keep a g,o.keep a g,q,r⟩
theorem bEach_ok{h0:Hp}(g:h0.t.Sized h0.n){d e:Value}(i:Fl d)(j:Fl e):Ret zM 96 [d,e] h0 fun v f=>Gr h0 f/\ ∃b1 a,v=.func (.func 167) #[] #[ptrTo b1,ptrTo a]/\h0.n<=b1/\h0.n<=a/\f.load b1 0 1=some [d]/\f.load a 0 1=some [e]:=by
 have S:=Si g
 refine ab (n:=6) (rs:=[.tmp 4]) rfl Tryz.e96 rfl rfl rfl (lbt rfl) ?_
 simp only [BS,Nat.reduceLT]
 refine ae (bF (by assumption)) S ?_;clear S;intro h b1 S b
 simp only [BS,Nat.reduceLT,Nat.reduceEqDiff,if_false]
 refine ae (bF (by assumption)) S ?_;clear S;intro h a S c
 simp only [BS,LB,ac,Nat.reduceLT,Nat.reduceEqDiff]
 exact⟨S.gr,b1,a,rfl,b,c,S.ld m1 rfl,S.ld m0 rfl⟩
def TellF(E:Env)(hq:Hp)(g:FuncId)(post:List Value)(N:Nat)(f:Nat->Int):Prop:= ∀h,h.t.Sized h.n->dT hq h-> ∀v,v<N->aK E g ([.int .i64 (v:Nat)]++post) h (.int .i64 (f v))
theorem bEach_it{hq h0:Hp}(o:hq.t.Sized hq.n)(e:h0.t.Sized h0.n)(x:dT hq h0)(y:hq.n<=h0.n){m N:Nat}{p:Value}{l:List Int}{R Q:Nat->List Int}(t:TabAt hq m p N l R Q)(P:N<=1000){b1 j:Nat}{g:FuncId}{post:Array Value}{f:Nat->Int}(hf:TellF zM hq g post.toList N f)
 (D:h0.load b1 0 1=some [p]) (E:h0.load j 0 1=some [.func (.func g) #[] post]):
 lE zM 167 [] [ptrTo b1,ptrTo j] h0 (fun c=>c=b1\/c=j\/c<hq.n) ((Xe N).map fun(v:Nat)=>[.int .i64 (f v)]):=by
 intro G J Z H Y h F s k
 have z:=s.load e D (.inl rfl)
 have S:Fl p:=by obtain⟨b,_,_,_,rfl,_⟩:=t.ex;exact cI
 refine enter (n:=17) (rs:=[]) rfl Tryz.e167 rfl rfl rfl (lbt rfl) ?_
 simp only [BS,LB,Nat.reduceLT,F0Q,z]
 refine an (pk s.ok (t.keep o (s.keep x y (fun c q=>.inr (.inr q))))) ?_
 intro T r
 have A:=s.gr r
 have B:=Y.gr _ _ _ _ k r
 simp only [BS]
 refine aN (fun(i:Nat) d h=>i<=N/\ ∃F,ItS h0 (fun c=>c=b1\/c=j\/c<hq.n) h F/\J i h F/\d 0=.func (.yield G) #[] #[]/\d 1=ptrTo b1/\d 2=ptrTo j/\d 6=.int .i64 (N:Nat)/\d 7=.int .i64 i) (fun i=>N-i) ?_ 0 _ _ ?_
 . clear z s k A B F r h
   intro i I d h ⟨hi,F,s,k,r0,r1,r2,r6,r7⟩
   have w:ao .i64 ((i:Int)+1)=((i+1:Nat):Int):=by rw [wrap64]<;>omega
   by_cases hlt:i<N
   . have K:=s.load e E (.inr (.inl rfl))
     have L:((Xe N).map fun(v:Nat)=>[Value.int .i64 (f v)])[i]? =some [.int .i64 (f i)]:=by rw [Xo,XY hlt];rfl
     simp only [BS,LB,Nat.reduceLT,Nat.reduceEqDiff,F0Q,r0,r2,r6,r7,aB,hlt,K]
     refine an (hf _ s.ok (s.keep x y (fun c q=>.inr (.inr q))) i hlt) ?_
     intro U C
     simp only [BS,LB,Nat.reduceLT,Nat.reduceEqDiff]
     refine cy Y (s.gr C) (Y.gr _ _ _ _ k C) (i:=i) L ?_ ?_ ?_
     . intro u M a O _ _
       simp only [BS,LB,Nat.reduceLT,Nat.reduceEqDiff,r7,w]
       exact I (i+1) _ _ (by omega) ⟨by omega,M,O,a,by simp [aa,r0],by simp [aa,r1,ag],by simp [aa,r2,ag],by simp [aa,r6],by simp [aa]⟩
     . intro u a _
       simp only [BS,LB,Nat.reduceLT,Nat.reduceEqDiff]
       exact fk rfl ⟨rfl,.inr (.inl ⟨_,rfl,a⟩)⟩
     . intro v u a
       exact absurd a (H v u)
   . simp only [BS,LB,Nat.reduceLT,r6,r7,aB,hlt]
     have:i=N:=by omega
     subst this
     exact bO (cB ⟨rfl,_,rfl,rfl,.inl ⟨_,F,rfl,by simpa using k⟩⟩)
 . exact⟨Xh _,F,A,B,by simp [aa,bQ],by simp [aa,bQ,ag],by simp [aa,bQ,ag],by simp [aa],by simp [aa]⟩
theorem pi1_ok{hq:Hp}{m N:Nat}{p:Value}{l:List Int}{R Q:Nat->List Int}(a:hq.t.Sized hq.n)(t:TabAt hq m p N l R Q)(g: ∀i,i<l.length->(R i).length=N)(j: ∀i,i<l.length->(Q i).length=N)(o:l.length<1000){d:Value}{act:List Int}(e:au hq 1 (encI .i64) d act)(c:act.length<1000){w:Int}{f b4 b5:Nat}(q:hq.load f 0 1=some [p])(r:hq.load b4 0 1=some [d])(s:hq.load b5 0 1=some [.int .i64 w]):
 TellF zM hq 190 [ptrTo f,ptrTo b4,ptrTo b5] N (fun v=>fT N l.length R Q v w act):=by
 intro h u k v y
 have z:Fl p:=by obtain⟨b,_,_,_,rfl,_⟩:=t.ex;exact cI
 have A:=e.fl
 have S:=Si u
 refine ab (n:=11) (rs:=[.tmp 5]) rfl Tryz.e190 rfl rfl rfl (lbt rfl) ?_
 simp only [BS,LB,Nat.reduceLT,Nat.reduceEqDiff,F1u,k.load a q,k.load a r,k.load a s]
 refine an (yr S.ok (t.keep a k) g j o (e.keep a k) c) ?_
 intro B x
 replace S:=S.call x
 simp only [BS,LB,ac,Nat.reduceLT,Nat.reduceEqDiff]
 exact S.gr
theorem bPi_ok{h0:Hp}(ok:h0.t.Sized h0.n){m N:Nat}{p:Value}{l:List Int}{R Q:Nat->List Int}(t:TabAt h0 m p N l R Q)(Y: ∀i,i<l.length->(R i).length=N)(hQ: ∀i,i<l.length->(Q i).length=N)(hl:l.length<1000)(hN:N<=1000){Z:Value}{act:List Int}(ha:au h0 1 (encI .i64) Z act)(H:act.length<1000){w:Nat}(hw:w<N):
 Ret zM 125 [p,Z,.int .i64 (w:Nat)] h0 fun r u=>Gr h0 u/\au u 1 (encI .i64) r ((Xe N).map fun(v:Nat)=>fT N l.length R Q v w act)/\ ∀c,ar r c->h0.n<=c:=by
 have fp:Fl p:=by obtain⟨b,_,_,_,rfl,_⟩:=t.ex;exact cI
 have fa:=ha.fl
 have S:=Si ok
 have c0:0<=(w:Int)/\(w:Int)<(N:Int):=by omega
 refine ab (n:=21) (rs:=[.cell 6 24]) rfl Tryz.e125 rfl rfl rfl (lbt rfl) ?_
 simp only [BS,Nat.reduceLT]
 refine ae (bF (by assumption)) S ?_;clear S;intro h b3 S ad
 simp only [BS,Nat.reduceLT,Nat.reduceEqDiff,if_false]
 refine ae (bF (by assumption)) S ?_;clear S;intro h b4 S af
 simp only [BS,Nat.reduceLT,Nat.reduceEqDiff,if_false]
 refine ae (bF (by exact aU)) S ?_;clear S;intro h b5 S ai
 have z:=S.gr
 have I:=S.ld (b:=b3) (o:=0) m2 rfl
 have l4:=S.ld (b:=b4) (o:=0) m1 rfl
 have l5:=S.ld (b:=b5) (o:=0) m0 rfl
 have f:=S.ok
 clear S
 rename Hp=>hq
 have S:=Si f
 simp only [BS,FK]
 refine ae ax S ?_;clear S;intro h d S ak
 simp only [BS,LB,Nat.reduceLT,Nat.reduceEqDiff,FK,S.old I (fun h=>h),S.old l5 (fun h=>h)]
 refine an (iD S.ok ((t.gr z).gr S.gr)) ?_
 intro h g;replace S:=S.call g;clear g
 have dc:decide (0<=(w:Int)/\(w:Int)<(N:Int))=true:=decide_eq_true c0
 simp only [BS,LB,Nat.reduceLT,Nat.reduceEqDiff,FK,dc,S.old I (fun h=>h)]
 have tf:=pi1_ok f (t.gr z) Y hQ hl (ha.gr z) H I l4 l5
 have aL:=(S.row (b:=d) m0).lt S.ok
 refine step_ret (bEach_ok S.ok fp ip) ?_
 rintro r h ⟨g,J,K,rfl,n1,n2,y1,y2⟩
 replace S:=S.call g;clear g
 have M:=bEach_it f S.ok S.gr.keep S.fr.n (t.gr z) hN tf y1 y2
 have kn:=S.fr.n
 have kG:=z.n
 have z1:=bD S.ok y1
 have z2:=bD S.ok y2
 rename Hp=>hE
 have S1:=S
 have O:=S.ok
 have l6:=(S.row (b:=d) m0).lt O
 simp only [BS]
 replace S:=S.base
 replace S:=S.nilG (k:=1)
 generalize A:((Xe N).map fun(v:Nat)=>fT N l.length R Q v w act)=xs
 have a0:xs.length=N:=by rw [<-A];simp
 replace M:lE zM 167 [] [ptrTo J,ptrTo K] hE (fun c=>c=J\/c=K\/c<hq.n) (xs.map fun x=>[.int .i64 x]):=by rw [<-A,List.map_map];exact M
 refine fu S (g:=167) (a:=#[]) (b:=#[ptrTo J,ptrTo K]) (by simp [bS,aa,ag]) rfl rfl ?_
 intro h2 G B q a1 a2 g2
 obtain⟨X,hX,q⟩: ∃X:d9,X=_/\St (· ∈[d]) hE h2 [(B,.loop X),(G,.dfr),(d,.row [.slice none 0 0] 1)] [(.slice none 0 0,1,[])]:=⟨_,rfl,q⟩
 have hJ:Yld zM B (fun k u F=> ∃(e:Value),St (· ∈[d]) hE u [(B,.loop X),(G,.dfr),(d,.row [e] 1)] [(e,1,ints (xs.take k))]/\k<=xs.length/\F=keys [(B,.loop X),(G,.dfr),(d,.row [e] 1)] [(e,1,ints (xs.take k))]) (fun _ _=>False) (xs.map fun x=>[.int .i64 x]):=by
  refine⟨?_,?_,fun _ _ h=>h.elim,?_⟩
  . rintro i h F ⟨e,S,_,rfl⟩;exact⟨S.ok,fun b s=>S.key_lt s⟩
  . rintro i h F u ⟨e,S,a,rfl⟩ gg;exact⟨e,S.call gg,a,rfl⟩
  . rintro i x Y F P ⟨e,S,a,rfl⟩
    have C:i<xs.length:=by
     have:=(List.getElem?_eq_some_iff.1 P).1
     simpa using this
    rw [Xo,Xa C]at P
    cases P
    have tk:ints (xs.take (i+1))=ints (xs.take i)++[.int .i64 xs[i]]:=by rw [List.take_add_one,Xa C];exact gV _ _
    have tl:(xs.take i).length<=i:=by rw [Xm];omega
    subst hX
    refine fH (S.get m0) (by rw [Tryz.e125];rfl) rfl ?_
    have S0:=S
    replace S:=S.base
    simp only [BS,LB,Nat.reduceLT,Nat.reduceEqDiff]
    refine eI S (i:=0) rfl rfl rfl rfl rfl ?_
    clear S;intro h S
    simp only [LC]at S
    simp only [BS,LB,Nat.reduceLT,Nat.reduceEqDiff,FK,S.ld (b:=d) (o:=0) m2 rfl]
    refine ae (bH (by exact Tryz.t24.1) (by exact X3) (by decide) (by rfl)) S ?_;clear S;intro h bs S al;simp only [LC,aT,bz,ah,Nat.reduceMul,Nat.reduceAdd,Xw,Xx,Xs,XC]at S
    simp only [BS,LB,Nat.reduceLT,Nat.reduceEqDiff]
    have D:aG h 1 (.slice (some ⟨bs,0,none⟩) 1 1)=some (1,[.int .i64 xs[i]]):=by simp only [aG];rw [S.lds (b:=bs) (o:=0) (n:=1*1) m0 (lbt rfl)];rfl
    replace S:=S.drop1
    refine dz (S.grow (j:=0) (m:=1) (new:=[.int .i64 xs[i]]) rfl Tryz.t24.1 X3 (by decide) Tryz.t24.2.2.2.2.2 D rfl (by decide) rfl (by rw [bU];simp;omega)) ?_
    clear S D;rintro h E S
    simp only [LC]at S
    have U:Fl E:=(S.gown _ m0).1.fl
    simp only [BS,LB,Nat.reduceLT,Nat.reduceEqDiff]
    refine az (ay S (i:=2) rfl Tryz.t24.2.2.1 U (Xc (lbt rfl)) ono) ?_
    clear S;rintro h ⟨S,_⟩
    simp only [LC]at S
    simp only [BS]
    refine dl S (i:=0) rfl ?_
    clear S;intro h S
    simp only [LC]at S
    rw [<-tk]at S
    exact .inl ⟨rfl,_,⟨E,S0.rebase S,by omega,rfl⟩,S.fr,fun c V=>(S.key_own V).symm⟩
 refine ef (M B _ _ (fun _ _ h=>h) hJ h2 _ ?_ ⟨_,q,Xh _,rfl⟩) fun o rc u y=>iA y ?_
 . refine⟨q.ok,q.fr.n,fun b s hd=>g2.get b s,fun b s h=>?_,fun b s=>q.key_lt s⟩
   rcases q.key_own s with h1|h1
   . omega
   . have:=List.mem_singleton.1 h1
     omega
 . rintro F ⟨e,T,b,rfl⟩
   rw [Xv,XH]at T
   subst hX
   refine⟨_,T.get m0,XP,?_⟩
   replace T:=T.dead
   have S:=T
   show Run _ _ _ _ _ _ _ _
   simp only [BS,LB,Nat.reduceLT,Nat.reduceEqDiff,FK,S.ld (b:=d) (o:=0) m1 rfl]
   have U:Fl e:=(T.gown _ m0).1.fl
   clear S
   refine az (ay T (i:=1) rfl Tryz.t24.2.2.1 U (Xc (lbt rfl)) ono) ?_
   clear T;rintro h3 ⟨T,_⟩
   simp only [List.set_cons_zero,List.set_cons_succ]at T
   simp only [BS]
   refine df (eQ [G] _ (L:=[(d,_)]) T.base fun h4 W=>?_)
   refine⟨rfl,(cK (by decide) (by simp only [aJ,ag,Nat.reduceEqDiff,reduceIte];exact gu Tryz.t24.2.1 (W.ld (b:=d) (o:=0) m0 rfl))).2 (dD.2 ⟨z.trans ((S1.rebase T).rebase W).gr,(W.gown _ m0).1.sl rfl (fun _=>rfl) (by decide),fun c V=>?_⟩)⟩
   rcases(T.gblk m0 V).1 with h|h
   . omega
   . have:=List.mem_singleton.1 h
     omega
def Tryz.F1v:=aj t1<|aj t2<|aj t3<|aj t4<|aj t24<|aj t33<|aj t51<|aj t114<|Z5
def Tryz.F1w:=aj t1<|aj t2<|aj t3<|aj t4<|aj t24<|aj t33<|aj t51<|aj t114<|Z5
theorem yM{h0:Hp}(b:h0.t.Sized h0.n):Ret zM 78 [.pointer none] h0 fun r a=>Gr h0 a/\ ∃l:List Int,au a 1 (encI .i64) r l/\l.length=0:=by
 have S:=Si b
 refine ab (n:=10) (rs:=[.tmp 2]) rfl Tryz.e78 rfl rfl rfl (lbt rfl) ?_
 simp only [BS,LB,ac,Nat.reduceLT,Nat.reduceEqDiff,F1v]
 exact⟨S.gr,[],.inl ⟨rfl,rfl⟩,rfl⟩
theorem yG{h0:Hp}(a:h0.t.Sized h0.n):aK zM 79 [.pointer none] h0 (.int .i64 ((0:Nat):Int)):=by
 have S:=Si a
 refine ab (n:=9) (rs:=[.tmp 2]) rfl Tryz.e79 rfl rfl rfl (lbt rfl) ?_
 simp only [BS,LB,ac,Nat.reduceLT,Nat.reduceEqDiff,Xl,F1w]
 exact S.gr
def TabQ(h:Hp)(b:Value)(a:Nat)(l:List Int)(R Q:Nat->List Int):Prop:=(∃m,TabAt h m b a l R Q/\(∀i,i<l.length->(R i).length=a)/\ ∀i,i<l.length->(Q i).length=a)\/(b=.pointer none/\a=0/\l=[])
theorem TabQ.gr{h c:Hp}{d:Value}{e:Nat}{l:List Int}{R Q:Nat->List Int}(t:TabQ h d e l R Q)(g:Gr h c):TabQ c d e l R Q:=t.imp (fun⟨m,a,b⟩=>⟨m,a.gr g,b⟩) (fun h=>h)
theorem TabQ.tabO{h:Hp}{d:Value}{e:Nat}{l:List Int}{R Q:Nat->List Int}(t:TabQ h d e l R Q)(f:l.length<1000):TabO zM h d e l.length 78 79:=by
 rcases t with⟨m,t,_,_⟩|⟨rfl,rfl,rfl⟩
 . refine⟨by obtain⟨b,_,_,_,rfl,_⟩:=t.ex;exact cI,fun x k=>(mS k.ok (t.gr k) f).mono fun r g ⟨a,b,c⟩=>⟨a,l,b,rfl⟩,fun x k=>pk k.ok (t.gr k)⟩
 . exact⟨cI,fun x k=>yM k.ok,fun x k=>yG k.ok⟩
def ansV(c:Int)(d:Int)(vA a:Value):Value:=.agg ⟨[.int .i64 c,.int .i64 d,vA,a]⟩
end Go.Ab
end
section
namespace Go.Ab
open Go.Proofs
set_option maxRecDepth 10000
def Tryz.F1x:=aj t1<|aj t3<|aj t4<|aj Z8<|aj Z0<|aj t32<|aj t51<|aj t66<|aj t67<|aj Z11<|aj Z5<|aj t130<|aj Z13<|aj t149<|Z1
def Tryz.F09:=aj t1<|aj t3<|aj t4<|aj Z8<|aj t32<|aj t51<|aj t66<|aj t67<|aj Z11<|aj Z5<|aj t130<|aj Z13<|Z1
def Tryz.F1y:=aj t1<|aj t3<|aj t4<|aj Z8<|aj Z0<|aj t32<|aj t51<|aj t66<|aj t67<|aj Z11<|aj Z5<|aj t130<|aj Z13<|aj t149<|Z1
def Tryz.F1z:=aj t1<|aj t3<|aj t4<|aj Z8<|aj t32<|aj t51<|aj t66<|aj t67<|aj Z11<|aj Z5<|aj t130<|aj Z13<|Z1
def Tryz.F1A:=aj t1<|aj t2<|aj t3<|aj t4<|aj Z8<|aj t32<|aj t51<|aj t66<|aj t67<|aj Z11<|aj Z5<|aj t130<|aj Z13<|Z1
def Tryz.FW:=aj t1<|aj t2<|aj t3<|aj t4<|aj Z8<|aj Z0<|aj t32<|aj t33<|aj t51<|aj t66<|aj t67<|aj Z11<|aj t114<|aj Z5<|aj t130<|aj Z13<|aj t149<|Z1
def Tryz.F0a:=aj t1<|aj t3<|aj t4<|aj t22<|aj Z8<|aj Z0<|aj t32<|aj t33<|aj t51<|aj t66<|aj t67<|aj Z11<|aj Z5<|aj t130<|aj Z13<|aj t149<|aj Z1<|aj Z6<|Z10
def sfC(b c d e:Value)(way f t a:Int):List Value:=[b,c,d,e,.int .i64 way,.int .i64 f,.int .i64 t,.int .i64 a]
section
variable{hq:Hp}{bq bp nb nd mk:Nat}{γ:Gra}{pc pf pt:Value}{way f t a:Int}{fitB:Bool}
theorem sfNet_ok(R:Row hq bq (sfC pc pf (ptrTo bp) pt way f t a) 1){b1:Nat}(b:hq.load b1 0 1=some [ptrTo bq]): ∀h,Gr hq h->aK zM 119 [ptrTo b1] h (.bool true):=by
 intro h g
 have S:=Si g.ok
 have c:=(R.gr g).load1 (o:=2) rfl
 refine ab (n:=7) (rs:=[.tmp 1]) rfl Tryz.e119 rfl rfl rfl (lbt rfl) ?_
 simp only [BS,LB,ac,Nat.reduceLT,Nat.reduceEqDiff,F1x,g.load b,c]
 exact S.gr
theorem sfWay_ok(R:Row hq bq (sfC pc pf (ptrTo bp) pt way f t a) 1){b1:Nat}(c:hq.load b1 0 1=some [ptrTo bq]): ∀h,Gr hq h->aK zM 120 [ptrTo b1] h (.bool (decide (way=4\/way=5))):=by
 intro h g
 have S:=Si g.ok
 have d:=(R.gr g).load1 (o:=4) rfl
 refine ab (n:=16) (rs:=[.tmp 1]) rfl Tryz.e120 rfl rfl rfl (lbt rfl) ?_
 by_cases b:way=4
 . simp only [BS,LB,ac,Nat.reduceLT,Nat.reduceEqDiff,F09,g.load c,d,b]
   exact⟨by simp [b],S.gr⟩
 . by_cases e:way=5
   . subst e
     simp only [BS,LB,ac,Nat.reduceLT,Nat.reduceEqDiff,F09,g.load c,d,(by decide: ¬(5:Int)=4)]
     exact⟨by simp,S.gr⟩
   . simp only [BS,LB,ac,Nat.reduceLT,Nat.reduceEqDiff,F09,g.load c,d,b,e]
     exact⟨by simp [b,e],S.gr⟩
theorem ut(c:aR hq nb (ptrTo bp) γ)(R:Row hq bq (sfC pc pf (ptrTo bp) pt way f t a) 1){v:Int}: ∀h,Gr hq h->aK zM 122 [ptrTo bq,.int .i64 v] h (.bool (decide (0<=v/\v<γ.nodes))):=by
 intro h g
 have S:=Si g.ok
 have d:=(R.gr g).load1 (o:=2) rfl
 refine ab (n:=16) (rs:=[.tmp 4]) rfl Tryz.e122 rfl rfl rfl (lbt rfl) ?_
 by_cases b:0<=v
 . simp only [BS,LB,Nat.reduceLT,Nat.reduceEqDiff,F1y,d,b]
   refine an (bV S.ok ((c.gr g).gr S.gr)) ?_;intro h g;replace S:=S.call g;clear g
   simp only [BS,LB,ac,Nat.reduceLT,Nat.reduceEqDiff]
   exact S.gr
 . simp only [BS,LB,ac,Nat.reduceLT,Nat.reduceEqDiff,b]
   exact⟨by simp [b],S.gr⟩
theorem sfFrom_ok(b:aR hq nb (ptrTo bp) γ)(R:Row hq bq (sfC pc pf (ptrTo bp) pt way f t a) 1){b1:Nat}(c:hq.load b1 0 1=some [ptrTo bq]): ∀h,Gr hq h->aK zM 121 [ptrTo b1] h (.bool (decide (0<=f/\f<γ.nodes))):=by
 intro h g
 have S:=Si g.ok
 have d:=(R.gr g).load1 (o:=5) rfl
 refine ab (n:=9) (rs:=[.tmp 1]) rfl Tryz.e121 rfl rfl rfl (lbt rfl) ?_
 simp only [BS]
 refine av (aC rfl) (q:=0) (ps:=[]) (by kernel_rfl) ?_
 simp only [BS,LB,cls,Nat.reduceLT,Nat.reduceEqDiff,Nat.reduceAdd,Nat.reducePow,Nat.reduceDiv,Nat.reduceMod,Nat.reduceLeDiff,F1z,g.load c,d]
 refine cw (ut b R _ (g.trans S.gr)) ?_
 intro i e
 replace S:=S.call e
 simp only [BS,LB,cls,ac,Nat.reduceLT,Nat.reduceEqDiff,Nat.reduceAdd,Nat.reducePow,Nat.reduceDiv,Nat.reduceMod,Nat.reduceLeDiff]
 exact S.gr
theorem sfTo_ok(b:aR hq nb (ptrTo bp) γ)(R:Row hq bq (sfC pc pf (ptrTo bp) pt way f t a) 1){b1:Nat}(c:hq.load b1 0 1=some [ptrTo bq]): ∀h,Gr hq h->aK zM 123 [ptrTo b1] h (.bool (decide (0<=t/\t<γ.nodes))):=by
 intro h g
 have S:=Si g.ok
 have d:=(R.gr g).load1 (o:=6) rfl
 refine ab (n:=9) (rs:=[.tmp 1]) rfl Tryz.e123 rfl rfl rfl (lbt rfl) ?_
 simp only [BS]
 refine av (aC rfl) (q:=0) (ps:=[]) (by kernel_rfl) ?_
 simp only [BS,LB,cls,Nat.reduceLT,Nat.reduceEqDiff,Nat.reduceAdd,Nat.reducePow,Nat.reduceDiv,Nat.reduceMod,Nat.reduceLeDiff,F1A,g.load c,d]
 refine cw (ut b R _ (g.trans S.gr)) ?_
 intro i e
 replace S:=S.call e
 simp only [BS,LB,cls,ac,Nat.reduceLT,Nat.reduceEqDiff,Nat.reduceAdd,Nat.reducePow,Nat.reduceDiv,Nat.reduceMod,Nat.reduceLeDiff]
 exact S.gr
theorem zi(u:aR hq nb (ptrTo bp) γ)(T:TabO zM hq pt nd mk 78 79)(R:Row hq bq (sfC pc pf (ptrTo bp) pt way f t a) 1): ∀h,Gr hq h->aK zM 189 [ptrTo bq] h (.bool (decide (0<mk/\nd=γ.nodes))):=by
 intro h g
 have w:=T.fl
 have S:=Si g.ok
 have z:=(R.gr g).lt g.ok
 have e:=(R.gr g).load1 (o:=3) rfl
 have v:=(R.gr g).load1 (o:=2) rfl
 refine ab (n:=23) (rs:=[.tmp 2]) rfl Tryz.e189 rfl rfl rfl (lbt rfl) ?_
 simp only [BS]
 refine av (aC rfl) (q:=0) (ps:=[(12,16)]) (by kernel_rfl) ?_
 simp only [BS,LB,cls,Nat.reduceLT,Nat.reduceEqDiff,Nat.reduceAdd,Nat.reducePow,Nat.reduceDiv,Nat.reduceMod,Nat.reduceLeDiff,FW,e]
 refine dp (T.marks _ (g.trans S.gr)) ?_
 rintro r x ⟨b,l,i,el⟩
 replace S:=S.call b
 have j:=aA b z
 by_cases k:0<mk
 . have d:(0:Int)<(l.length:Int):=by omega
   simp only [BS,LB,cls,Nat.reduceLT,Nat.reduceEqDiff,Nat.reduceAdd,Nat.reducePow,Nat.reduceDiv,Nat.reduceMod,Nat.reduceLeDiff,FW,i.lenq,d,b.load e]
   refine cw (T.nodes _ (g.trans S.gr)) ?_
   intro y c
   have m:=aA c (Xn z b.n)
   replace S:=S.call c
   simp only [BS,LB,cls,Nat.reduceLT,Nat.reduceEqDiff,Nat.reduceAdd,Nat.reducePow,Nat.reduceDiv,Nat.reduceMod,Nat.reduceLeDiff,FW,c.load (b.load v)]
   refine cw (bV S.ok ((u.gr g).gr S.gr)) ?_
   intro A p
   have s:=aA p (Xn z (b.trans c).n)
   replace S:=S.call p
   simp only [BS,LB,cls,ac,Nat.reduceLT,Nat.reduceEqDiff,Nat.reduceAdd,Nat.reducePow,Nat.reduceDiv,Nat.reduceMod,Nat.reduceLeDiff]
   refine⟨by simp only [a8,bC,aW,bI,aY,ne_eq,not_false_eq_true,bK,bZ,bj,aZ,bS,c9,aJ,Nat.reduceLT,Nat.reduceEqDiff,reduceIte,Xb,ag,bQ,aM j,aQ j,aM m,aQ m,aM s,aQ s],?_⟩
   exact⟨by simp [k,Int.ofNat_inj],S.gr⟩
 . have d: ¬(0:Int)<(l.length:Int):=by omega
   simp only [BS,LB,cls,ac,Nat.reduceLT,Nat.reduceEqDiff,Nat.reduceAdd,Nat.reducePow,Nat.reduceDiv,Nat.reduceMod,Nat.reduceLeDiff,FW,i.lenq,d]
   exact⟨by simp only [a8,bC,aW,bI,aY,ne_eq,not_false_eq_true,Nat.reduceEqDiff,oO,vw,Xb],by simp [k],S.gr⟩
def iZ(fitB:Bool)(way:Int)(mk nd N:Nat):Bool:=fitB&&(decide (way≠5)||decide (0<mk/\nd=N))
theorem sfFits_ok(i:aR hq nb (ptrTo bp) γ)(T:TabO zM hq pt nd mk 78 79)(R:Row hq bq (sfC pc pf (ptrTo bp) pt way f t a) 1)(m:Fl pc)(p:Fl pf)(F: ∀h,Gr hq h->aK zM 188 [ptrTo bp,pc,pf] h (.bool fitB)):
 ∀h,Gr hq h->aK zM 124 [ptrTo bq] h (.bool (iZ fitB way mk nd γ.nodes)):=by
 intro h g
 have S:=Si g.ok
 have z:=(R.gr g).lt g.ok
 have j:=(R.gr g).load1 (o:=0) rfl
 have k:=(R.gr g).load1 (o:=1) rfl
 have l:=(R.gr g).load1 (o:=2) rfl
 have d:=(R.gr g).load1 (o:=4) rfl
 refine ab (n:=30) (rs:=[.tmp 2]) rfl Tryz.e124 rfl rfl rfl (lbt rfl) ?_
 simp only [BS]
 refine av (aC rfl) (q:=0) (ps:=[]) (by kernel_rfl) ?_
 simp only [BS,LB,cls,Nat.reduceLT,Nat.reduceEqDiff,Nat.reduceAdd,Nat.reducePow,Nat.reduceDiv,Nat.reduceMod,Nat.reduceLeDiff,F0a,j,k,l]
 refine cw (F _ (g.trans S.gr)) ?_
 intro r b
 have s:=aA b z
 replace S:=S.call b
 cases fitB with
 | false=>
   simp only [BS,LB,cls,ac,Nat.reduceLT,Nat.reduceEqDiff,Nat.reduceAdd,Nat.reducePow,Nat.reduceDiv,Nat.reduceMod,Nat.reduceLeDiff]
   exact⟨by simp [iZ],S.gr⟩
 | true=>
   by_cases c:way=5
   . simp only [BS,LB,cls,Nat.reduceLT,Nat.reduceEqDiff,Nat.reduceAdd,Nat.reducePow,Nat.reduceDiv,Nat.reduceMod,Nat.reduceLeDiff,F0a,b.load d,c]
     refine cw (zi i T R _ (g.trans S.gr)) ?_
     intro u e
     have v:=aA e (Xn z b.n)
     replace S:=S.call e
     simp only [BS,LB,cls,ac,Nat.reduceLT,Nat.reduceEqDiff,Nat.reduceAdd,Nat.reducePow,Nat.reduceDiv,Nat.reduceMod,Nat.reduceLeDiff]
     exact⟨by simp [iZ],S.gr⟩
   . simp only [BS,LB,cls,ac,Nat.reduceLT,Nat.reduceEqDiff,Nat.reduceAdd,Nat.reducePow,Nat.reduceDiv,Nat.reduceMod,Nat.reduceLeDiff,F0a,b.load d,c]
     exact⟨by simp [iZ,c],S.gr⟩
end
end Go.Ab

end
section
namespace Go.Ab
open Go.Proofs
set_option maxRecDepth 10000
def Tryz.F1B:=aj t4<|aj Z8<|aj t32<|aj t45<|aj t51<|aj t54<|aj Z11<|aj t130<|aj Z13<|t204
structure Rs where
 g:FuncId
 pre:Array Value
 post:Array Value
 ok:Bool
 code:Int
def argS(r:Rs):List Value:=[.int .i64 r.code,.func (.func r.g) r.pre r.post]
def og:List Rs->Int
 | []=>0
 |r::a=>if r.ok=true then og a else r.code
theorem firstS_at{rs:List Rs}{i:Nat}{r:Rs}(h:rs[i]? =some r)(a: ∀q∈rs.take i,q.ok=true)(b:r.ok≠true):og rs=r.code:=by
 induction rs generalizing i with
 |nil=>cases h
 | cons q rs c=>
   cases i with
   |zero=>cases h;unfold og;rw [if_neg b]
   | succ i=>
     rw [og,if_pos (a q (by simp))]
     exact c (by simpa using h) (fun x d=>a x (by simp [d]))
theorem zG{rs:List Rs}(h: ∀q∈rs,q.ok=true):og rs=0:=by
 induction rs with
 |nil=>rfl
 |cons q rs a=>rw [og,if_pos (h q (by simp))];exact a (fun x b=>h x (by simp [b]))
def sfRs(b1 bq:Nat)(okW okF okT okX:Bool):List Rs:=[⟨119,#[],#[ptrTo b1],true,1⟩,⟨120,#[],#[ptrTo b1],okW,16⟩,⟨121,#[],#[ptrTo b1],okF,17⟩,⟨123,#[],#[ptrTo b1],okT,18⟩,⟨124,#[ptrTo bq],#[],okX,19⟩]
theorem looks_ok{h0:Hp}(c:h0.t.Sized h0.n){bq:Nat}:Ret zM 56 [ptrTo bq] h0 fun v b=>Gr h0 b/\ ∃b1,v=.func (.func 118) #[] #[ptrTo b1]/\h0.n<=b1/\b.load b1 0 1=some [ptrTo bq]:=by
 have S:=Si c
 refine ab (n:=4) (rs:=[.tmp 2]) rfl Tryz.e56 rfl rfl rfl (lbt rfl) ?_
 simp only [BS,Nat.reduceLT]
 refine ae (bF (by exact cI)) S ?_;clear S;intro h b1 S a
 simp only [BS,LB,ac,Nat.reduceLT,Nat.reduceEqDiff]
 exact⟨S.gr,b1,rfl,a,S.ld m0 rfl⟩
theorem looks1_it{h0:Hp}(f:h0.t.Sized h0.n){b1 bq:Nat}(g:h0.load b1 0 1=some [ptrTo bq]){okW okF okT okX:Bool}:lE zM 118 [] [ptrTo b1] h0 (fun c=>c=b1) ((sfRs b1 bq okW okF okT okX).map argS):=by
 intro l J Z e Y h F s b
 have S:=Si s.ok
 refine enter (n:=27) (rs:=[]) rfl Tryz.e118 rfl rfl rfl (lbt rfl) ?_
 simp only [BS,LB,Nat.reduceLT,Nat.reduceEqDiff]
 refine cy Y s b (i:=0) rfl ?_ ?_ (fun v d a=>absurd a (e v d))
 rotate_left
 . intro d a _
   simp only [BS,LB,Nat.reduceLT,Nat.reduceEqDiff]
   exact bO (cB ⟨rfl,_,rfl,rfl,.inr (.inl ⟨_,rfl,a⟩)⟩)
 clear b s;intro m o b s _ _
 simp only [BS,LB,Nat.reduceLT,Nat.reduceEqDiff]
 refine cy Y s b (i:=1) rfl ?_ ?_ (fun v d a=>absurd a (e v d))
 rotate_left
 . intro d a _
   simp only [BS,LB,Nat.reduceLT,Nat.reduceEqDiff]
   exact bO (cB ⟨rfl,_,rfl,rfl,.inr (.inl ⟨_,rfl,a⟩)⟩)
 clear b s;intro p q b s _ _
 simp only [BS,LB,Nat.reduceLT,Nat.reduceEqDiff]
 refine cy Y s b (i:=2) rfl ?_ ?_ (fun v d a=>absurd a (e v d))
 rotate_left
 . intro d a _
   simp only [BS,LB,Nat.reduceLT,Nat.reduceEqDiff]
   exact bO (cB ⟨rfl,_,rfl,rfl,.inr (.inl ⟨_,rfl,a⟩)⟩)
 clear b s;intro d r b s _ _
 simp only [BS,LB,Nat.reduceLT,Nat.reduceEqDiff]
 refine cy Y s b (i:=3) rfl ?_ ?_ (fun v d a=>absurd a (e v d))
 rotate_left
 . intro d a _
   simp only [BS,LB,Nat.reduceLT,Nat.reduceEqDiff]
   exact bO (cB ⟨rfl,_,rfl,rfl,.inr (.inl ⟨_,rfl,a⟩)⟩)
 clear b s;intro t u b s _ _
 have j:=s.load f g rfl
 simp only [BS,LB,Nat.reduceLT,Nat.reduceEqDiff,F1B,j]
 refine cy Y s b (i:=4) rfl ?_ ?_ (fun v d a=>absurd a (e v d))
 rotate_left
 . intro d a _
   simp only [BS,LB,Nat.reduceLT,Nat.reduceEqDiff]
   exact bO (cB ⟨rfl,_,rfl,rfl,.inr (.inl ⟨_,rfl,a⟩)⟩)
 clear b s;intro w k b s _ _
 simp only [BS,LB,Nat.reduceLT,Nat.reduceEqDiff]
 exact bO (cB ⟨rfl,_,rfl,rfl,.inl ⟨_,k,rfl,b⟩⟩)
def Tryz.F0R:=aj t1<|aj t2<|aj t3<|aj t24<|aj Z8<|aj t32<|aj t33<|aj t51<|aj t66<|aj t67<|aj Z11<|aj t114<|aj Z5<|aj t130<|aj Z13<|Z1
def Tryz.Fa:=aj t1<|aj t2<|aj t3<|aj t4<|aj t5<|aj t6<|aj Z3<|aj Z4<|aj t9<|aj t10<|aj t11<|aj t12<|aj Z14<|aj t22<|aj t23<|aj t24<|aj t25<|aj r25<|aj t26<|aj r26<|aj Z8<|aj Z0<|aj t32<|aj t33<|aj t45<|aj t47<|aj r47<|aj t48<|aj t51<|aj t54<|aj t63<|aj t66<|aj t67<|aj Z11<|aj Z12<|aj t103<|aj r103<|aj Z23<|aj t114<|aj Z5<|aj t130<|aj Z13<|aj t134<|aj t137<|aj t138<|aj t149<|aj Z1<|aj Z6<|Z10
theorem xd{E:Env}{ρ:Operand->Value}{h:Hp}{t:TypeId}{m k v:Operand}:aop E ρ h (.insert t m k v)=fg (iu E h t (ρ m) (ρ k) (ρ v)):=rfl
def qi(okW okF okT okX:Bool):Int:=if okW=true then(if okF=true then(if okT=true then(if okX=true then 0 else 19)else 18)else 17)else 16
theorem firstS_sf{b1 bq:Nat}{okW okF okT okX:Bool}:og (sfRs b1 bq okW okF okT okX)=qi okW okF okT okX:=by
 cases okW<;>cases okF<;>cases okT<;>cases okX<;>rfl
def sfP(N:Nat)(l:List Int)(R Q:Nat->List Int)(act:List Int)(way:Int)(w:Nat):List Int:=if way=5 then(Xe N).map (fun(v:Nat)=>fT N l.length R Q v w act)else []
theorem AE{okW okF okT okX:Bool}(h:qi okW okF okT okX=0):okW=true/\okF=true/\okT=true/\okX=true:=by
 cases okW<;>cases okF<;>cases okT<;>cases okX<;>first|exact⟨rfl,rfl,rfl,rfl⟩|(exact absurd h (by decide))
theorem AM{h0:Hp}(a:h0.t.Sized h0.n){bq:Nat}:aK zM 57 [ptrTo bq] h0 (.tuple #[.slice none 0 0,.slice none 0 0]):=by
 have S:=Si a
 refine ab (n:=4) (rs:=[.tmp 2,.tmp 3]) rfl Tryz.e57 rfl rfl rfl (lbt rfl) ?_
 simp only [BS,LB,ac,Nat.reduceLT,Nat.reduceEqDiff]
 exact S.gr
theorem Ac{h0:Hp}(C:h0.t.Sized h0.n){bq m N:Nat}{D E F j:Value}{way a:Int}{s w:Nat}{l:List Int}{R Q:Nat->List Int}(d:Row h0 bq (sfC D E F j way s w a) 1)(t:TabAt h0 m j N l R Q)(p: ∀i,i<l.length->(R i).length=N)(u: ∀i,i<l.length->(Q i).length=N)(G:l.length<=16)(P:N<=100)(T:s<N)(H:w<N):
 Ret zM 58 [ptrTo bq] h0 fun r k=>Gr h0 k/\ ∃e f,r=.tuple #[e,f]/\au k 1 bJ e (lO N l.length R Q s w a)/\au k 1 (encI .i64) f ((Xe N).map fun(v:Nat)=>fT N l.length R Q v w ((lO N l.length R Q s w a).map fun(x:Nat)=>(x:Int)))/\ ∀c,(ar e c\/ar f c)->h0.n<=c:=by
 have S:=Si C
 have U:Fl j:=by obtain⟨b,_,_,_,rfl,_⟩:=t.ex;exact cI
 have y:=d.load1 (o:=3) rfl
 have I:=d.load1 (o:=5) rfl
 have z:=d.load1 (o:=6) rfl
 have J:=d.load1 (o:=7) rfl
 refine ab (n:=36) (rs:=[.tmp 2,.tmp 3]) rfl Tryz.e58 rfl rfl rfl (lbt rfl) ?_
 simp only [BS]
 refine av (aC rfl) (q:=0) (ps:=[]) (by kernel_rfl) ?_
 simp only [BS,LB,cls,Nat.reduceLT,Nat.reduceEqDiff,Nat.reduceAdd,Nat.reducePow,Nat.reduceDiv,Nat.reduceMod,Nat.reduceLeDiff,F0R,y,I,z,J]
 refine dp (zH S.ok t p u G) ?_
 rintro e h ⟨g,A,K⟩
 replace S:=S.call g
 have V:(lO N l.length R Q s w a).length<=16:=by unfold lO;rw [Xm];omega
 have W:=g.n
 simp only [BS,LB,cls,Nat.reduceLT,Nat.reduceEqDiff,Nat.reduceAdd,Nat.reducePow,Nat.reduceDiv,Nat.reduceMod,Nat.reduceLeDiff]
 refine av (aC rfl) (q:=0) (ps:=[]) (by kernel_rfl) ?_
 simp only [BS,LB,cls,Nat.reduceLT,Nat.reduceEqDiff,Nat.reduceAdd,Nat.reducePow,Nat.reduceDiv,Nat.reduceMod,Nat.reduceLeDiff,F0R,g.load y,g.load z]
 refine dp (bPi_ok S.ok (t.gr g) p u (by omega) (by omega) (sl_nat A) (by rw [Xv];omega) H) ?_
 rintro f X ⟨B,L,M⟩
 replace S:=S.call B
 simp only [BS,LB,cls,ac,Nat.reduceLT,Nat.reduceEqDiff,Nat.reduceAdd,Nat.reducePow,Nat.reduceDiv,Nat.reduceMod,Nat.reduceLeDiff]
 exact⟨S.gr,_,_,rfl,A.gr B,L,fun c O=>O.elim (K c) (fun h=>by have:=M c h;omega)⟩
theorem AA {h0:Hp} (ok:h0.t.Sized h0.n) {bp nb nd:Nat} {j:Gra} (al:Good j) (hn:aR h0 nb (ptrTo bp) j) {pt pc pf:Value} {l:List Int} {R Q:Nat->List Int} (T:TabQ h0 pt nd l R Q) (hl:l.length<=16) (fc:Fl pc) (ff:Fl pf) {A:Bool} (F: ∀h,Gr h0 h->aK zM 188 [ptrTo bp,pc,pf] h (.bool A))
 {mb fp fb ad af:Nat} {m:List Int} {cf:Nat->Nat} {Bt:Nat->Nat} (P:A=true->fm h0 mb pc j.nodes m cf/\pf=ptrTo fp/\ik h0 fp fb ad j.arcs.length af Bt/\ad<=100/\af=(j.arcs.length+7)/8/\ ∀v,v<j.nodes->cf v<ad) {way f t a:Int}:
 Ret zM 22 [ptrTo bp,pt,.agg ⟨[pc,pf]⟩,.agg ⟨[.int .i64 way,.int .i64 f,.int .i64 t,.int .i64 a]⟩] h0 fun r J=>Gr h0 J/\ ∃c d vA vB vE,r=.tuple #[ansV c d vA vB,vE]/\(∀x,(ar vA x\/ar vB x\/ar vE x)->h0.n<=x)/\
  (((qi (decide (way=4\/way=5)) (decide (0<=f/\f<j.nodes)) (decide (0<=t/\t<j.nodes)) (iZ A way l.length nd j.nodes)≠0\/f=t)/\c=qi (decide (way=4\/way=5)) (decide (0<=f/\f<j.nodes)) (decide (0<=t/\t<j.nodes)) (iZ A way l.length nd j.nodes)/\d=0/\vA=.slice none 0 0/\vB=.slice none 0 0/\vE=.slice none 0 0)\/
   (qi (decide (way=4\/way=5)) (decide (0<=f/\f<j.nodes)) (decide (0<=t/\t<j.nodes)) (iZ A way l.length nd j.nodes)=0/\ ∃(s w:Nat) (O:Fd),f=s/\t=w/\s≠w/\s<j.nodes/\w<j.nodes/\
     Ends j.arcs (alF ((Xe j.arcs.length).map (fK Bt af (cf w)))) (piF (sfP j.nodes l R Q ((lO j.nodes l.length R Q f t a).map fun(x:Nat)=>(x:Int)) way w)) w (dM (piF (sfP j.nodes l R Q ((lO j.nodes l.length R Q f t a).map fun(x:Nat)=>(x:Int)) way w)) s) O/\
     au J 4 iX vE O.ev/\
     ((FAR<=O.dist/\c=20/\d=0/\vA=.slice none 0 0/\vB=.slice none 0 0)\/
      (O.dist<FAR/\c=0/\d=(O.dist:Nat)/\au J 1 bJ vA O.arcs/\au J 1 bJ vB (if way=5 then lO j.nodes l.length R Q f t a else []))))):=by
 have S:=Si ok
 have dF:=fj
 have To:=T.tabO (by omega)
 have ft:Fl pt:=To.fl
 have n1:=al.n1
 have n2:=al.n2
 have dj:=al.many
 obtain⟨cc,V⟩: ∃cc,qi (decide (way=4\/way=5)) (decide (0<=f/\f<j.nodes)) (decide (0<=t/\t<j.nodes)) (iZ A way l.length nd j.nodes)=cc:=⟨_,rfl⟩
 refine ab (n:=84) (rs:=[.cell 8 47,.cell 9 48]) rfl Tryz.e22 rfl rfl rfl (lbt rfl) ?_
 simp only [BS,Nat.reduceLT]
 refine ae (bg (by intro x e;cases e)) S ?_;clear S;intro h b6 S dm;simp only [ah]at S
 simp only [BS,Nat.reduceLT,Nat.reduceEqDiff,if_false]
 refine ae (bg (by intro x e;cases e)) S ?_;clear S;intro h b7 S dn;simp only [ah]at S
 simp only [BS,Fa]
 refine ae ax S ?_;clear S;intro h B S dq
 simp only [BS,Fa]
 refine ae ax S ?_;clear S;intro h C S ds
 simp only [BS,LB,Nat.reduceLT,Nat.reduceEqDiff,Nat.reduceAdd,Nat.reduceLeDiff,Fa,ft,Xr,Xq,Xu,S.lds (b:=b6) (o:=0) (n:=2) m3 (lbt rfl),S.lds (b:=b7) (o:=0) (n:=4) m2 (lbt rfl)]
 refine ae (bg (by intro x e;cases e)) S ?_;clear S;intro h G S ch;simp only [ah]at S
 have Rq:Row h G (sfC pc pf (ptrTo bp) pt way f t a) 1:=S.row (b:=G) m0
 have gq:=S.gr
 have dO:=S.ok
 have R6:=S.row (b:=b6) m4
 have R7:=S.row (b:=b7) m3
 have R8:=S.row (b:=B) m2
 have R9:=S.row (b:=C) m1
 have cj:C≠B/\(b7≠B/\b7≠C)/\(b6≠B/\b6≠C)/\G≠B/\G≠C:=by
  have ap:=S.apart
  simp [keys]at ap
  omega
 obtain⟨E,n7,n6,nq⟩:=cj
 rename Hp=>hq
 simp only [BS,LB,Nat.reduceLT,Nat.reduceEqDiff]
 refine step_ret (looks_ok S.ok) ?_
 rintro r W ⟨g,b1,rfl,d0,y1⟩
 have gA:=gq.trans g
 replace Rq:=Rq.gr g
 replace R6:=R6.gr g
 replace R7:=R7.gr g
 replace R8:=R8.gr g
 replace R9:=R9.gr g
 have aL:=gA.ok
 clear S
 have S:=Si aL
 have ba:=hn.gr gA
 have ck:=(T.gr gA).tabO (show l.length<1000 by omega)
 have FA: ∀h,Gr W h->aK zM 188 [ptrTo bp,pc,pf] h (.bool A):=fun h g=>F h (gA.trans g)
 have s1:=sfNet_ok Rq y1
 have s2:=sfWay_ok Rq y1
 have s3:=sfFrom_ok ba Rq y1
 have s4:=sfTo_ok ba Rq y1
 have s5:=sfFits_ok ba ck Rq fc ff FA
 have it:=looks1_it aL y1 (okW:=decide (way=4\/way=5)) (okF:=decide (0<=f/\f<j.nodes)) (okT:=decide (0<=t/\t<j.nodes)) (okX:=iZ A way l.length nd j.nodes)
 have e0:=firstS_sf (b1:=b1) (bq:=G) (okW:=decide (way=4\/way=5)) (okF:=decide (0<=f/\f<j.nodes)) (okT:=decide (0<=t/\t<j.nodes)) (okX:=iZ A way l.length nd j.nodes)
 have b0: ∀r∈sfRs b1 G (decide (way=4\/way=5)) (decide (0<=f/\f<j.nodes)) (decide (0<=t/\t<j.nodes)) (iZ A way l.length nd j.nodes),∀h,Gr W h->aK zM r.g (r.pre.toList++r.post.toList) h (.bool r.ok):=by
  intro r hr
  simp only [sfRs,Xi,Xd,or_false]at hr
  rcases hr with rfl|rfl|rfl|rfl|rfl
  . exact s1
  . exact s2
  . exact s3
  . exact s4
  . exact s5
 clear s1 s2 s3 s4 s5
 generalize cl:sfRs b1 G (decide (way=4\/way=5)) (decide (0<=f/\f<j.nodes)) (decide (0<=t/\t<j.nodes)) (iZ A way l.length nd j.nodes)=rs at it e0 b0
 rw [V]at e0
 have k8:=R8.lt aL
 have k9:=R9.lt aL
 simp only [BS]
 refine fu S (g:=118) (a:=#[]) (b:=#[ptrTo b1]) (by simp [bS,aa,ag]) rfl rfl ?_
 intro h2 H lb S' d3 d4 g2
 obtain⟨X,hX,S'⟩: ∃X:d9,X=_/\St NoM W h2 [(lb,.loop X),(H,.dfr)] []:=⟨_,rfl,S'⟩
 have hJ :Yld zM lb (fun k J F=>St NoM W J [(lb,.loop X),(H,.dfr)] []/\(∀q∈rs.take k,q.ok=true)/\F=keys [(lb,Ob.loop X),(H,.dfr)] [])
  (fun o J=>o=.ret (.bool false)/\ ∃(Y:d9),cc≠0/\Y.st=2/\Y.pending=some .ret/\St (· ∈[C,B]) W J [(lb,.loop Y),(H,.dfr),(C,.row [.slice none 0 0] 1),(B,.row [.int .i64 cc,.int .i64 0,.slice none 0 0,.slice none 0 0] 1)] []) (rs.map argS):=by
  refine⟨?_,?_,?_,?_⟩
  . rintro i h F ⟨S,_,rfl⟩;exact⟨S.ok,fun b K=>S.key_lt K⟩
  . rintro i h F J ⟨S,a,rfl⟩ gg;exact⟨S.call gg,a,rfl⟩
  . rintro h J ⟨a,Y,e1,e2,e3,S⟩ gg;exact⟨a,Y,e1,e2,e3,S.call gg⟩
  . rintro i x hR F hx ⟨S,ha,rfl⟩
    have a0:i<rs.length:=by
     have:=(List.getElem?_eq_some_iff.1 hx).1
     simpa using this
    rw [Xo,Xa a0]at hx
    cases hx
    have bb:=b0 _ (Xj a0)
    have tk:rs.take (i+1)=rs.take i++[rs[i]]:=XG a0
    have bc:rs[i]? =some rs[i]:=Xa a0
    generalize rs[i]=r at bb tk bc
    obtain⟨rg,dt,cn,cp,bd⟩:=r
    simp only []at bb
    subst hX
    refine fH (S.get m0) (by rw [Tryz.e22];rfl) rfl ?_
    have S0:=S
    replace S:=S.base
    simp only [BS,LB,Nat.reduceLT,Nat.reduceEqDiff]
    refine eI S (i:=0) rfl rfl rfl rfl rfl ?_
    clear S;intro h S
    simp only [LC]at S
    simp only [BS,LB,Nat.reduceLT,Nat.reduceEqDiff]
    have cr:Gr W h:=(S0.rebase S).gr
    refine an (bb _ cr) ?_
    intro h3 g3
    replace S:=S.call g3
    cases cp with
    | true=>
      simp only [BS,LB,Nat.reduceLT,Nat.reduceEqDiff]
      refine dl S (i:=0) rfl ?_
      clear S;intro h S
      simp only [LC]at S
      refine .inl ⟨rfl,_,⟨S0.rebase S,?_,rfl⟩,S.fr,S.key_new⟩
      intro q hq
      rw [tk]at hq
      rcases List.mem_append.1 hq with hq|hq
      . exact ha q hq
      . rw [List.mem_singleton.1 hq]
    | false=>
      have ec:cc=bd:=by rw [<-e0];exact firstS_at bc ha Bool.false_ne_true
      have Z:cc≠0:=by
       rw [ec]
       have hm:=List.mem_of_getElem? bc
       rw [<-cl]at hm
       simp only [sfRs,Xi,Xd,or_false,Rs.mk.injEq]at hm
       rcases hm with⟨_,_,_,_,rfl⟩|⟨_,_,_,_,rfl⟩|⟨_,_,_,_,rfl⟩|⟨_,_,_,_,rfl⟩|⟨_,_,_,_,rfl⟩<;>decide
      have U:=S0.rebase S
      have gU:=U.gr
      have be:=R8.gr gU
      have bf:=R9.gr gU
      have ks: ∀c∈keys [(lb,Ob.loop _),(H,Ob.dfr)] [],W.n<=c:=fun c p=>(U.key_own p).elim (fun h=>h) (fun h=>h.elim)
      have U2:=((U.mono (M':=(· ∈[C,B])) (fun _ h=>h.elim)).push (b:=B) (o:=.row _ 1) (.inr (by simp)) be (fun h=>by have:=ks _ h;omega)).push (b:=C) (o:=.row _ 1) (.inr (by simp)) bf (fun h=>by
       rcases List.mem_cons.1 h with h|h
       . have ap:C≠B:=E
         exact ap h
       . have:=ks _ h;omega)
      clear S U
      have S:=U2
      clear U2
      rw [<-ec]
      simp only [BS,LB,Nat.reduceLT,Nat.reduceEqDiff,Nat.reduceAdd,Fa]
      refine az (S.store (i:=1) rfl Tryz.t47.2.1 (by intro x e;cases e) rfl rfl (lbt rfl) ono) ?_
      clear S;rintro h ⟨S,_⟩
      simp only [LC,ah,lay,Xf,Xg,Nat.reduceAdd]at S
      simp only [BS,LB,Nat.reduceLT,Nat.reduceEqDiff]
      refine az (ay S (i:=0) rfl Tryz.t48.2.2.1 a9 (Xc (lbt rfl)) ono) ?_
      clear S;rintro h ⟨S,_⟩
      simp only [LC]at S
      simp only [BS]
      refine round_ret S (i:=2) rfl ?_
      clear S;intro h S
      simp only [LC]at S
      exact .inr (.inl ⟨rfl,⟨rfl,_,Z,rfl,rfl,S.permL (XU (l₁:=[_,_]) (l₂:=[_,_]))⟩,S.ok⟩)
 have b2: ∀(b:Nat),b∈keys [(lb,Ob.loop X),(H,.dfr)] []-> ¬(b<W.n/\b=b1):=fun b K h=>(S'.key_own K).elim (fun h1=>by omega) (fun h=>h.elim)
 refine ef (it lb _ _ (fun v h hz=>by cases hz.1) hJ h2 _ ?_ ⟨S',by simp,rfl⟩) fun o rc J y=>?_
 . exact⟨S'.ok,S'.fr.n,fun b K hd=>g2.get b K,b2,fun b K=>S'.key_lt K⟩
 . obtain ⟨_,⟨u,F',rfl,U,ha,rfl⟩|⟨u,rfl,hz,Y,Z,st,pe,U⟩|⟨w,rfl,hz,_⟩⟩:=y
   . rw [Xv,XH]at ha
     have bh:cc=0:=by rw [<-e0];exact zG ha
     subst hX
     refine⟨_,U.get m0,XP,?_⟩
     replace U:=U.dead
     show Run _ _ _ _ _ _ _ _
     have gU:=U.gr
     have be:=R8.gr gU
     have bf:=R9.gr gU
     have ks: ∀c∈keys [(H,Ob.dfr)] [],W.n<=c:=fun c p=>(U.key_own p).elim (fun h=>h) (fun h=>h.elim)
     have U2:=((U.mono (M':=(· ∈[C,B])) (fun _ h=>h.elim)).push (b:=B) (o:=.row _ 1) (.inr (by simp)) be (fun h=>by have:=ks _ h;omega)).push (b:=C) (o:=.row _ 1) (.inr (by simp)) bf (fun h=>by
      rcases List.mem_cons.1 h with h|h
      . exact E h
      . have:=ks _ h;omega)
     have S:=U2.permL (L':=[(H,.dfr),(C,_),(B,_)]) (XU (l₁:=[_]) (l₂:=[_,_]))
     clear U U2 R8 R9 hJ it b2
     have a1: ∀{x:Hp},Mo (· ∈[C,B]) W x->Gr h0 x:=fun f=>(gA.fr.trans f (fun c p=>.inr (by simp only [Xi,Xd,or_false]at p;omega)):Mo NoM h0 _).gr
     have a2: ∀{x:Hp} {b:Nat} {l:List Value},Mo (· ∈[C,B]) W x->Row W b l 1->b≠B/\b≠C->Row x b l 1:=fun {x b l} f r e=>f.has (b:=b) (o:=.row l 1) r (by simp [e.1,e.2])
     have a3:=(R7.gr gU).load1 (o:=1) rfl
     have a4:=(R7.gr gU).load1 (o:=2) rfl
     by_cases bi:f=t
     . subst bi
       simp only [BS,LB,Nat.reduceLT,Nat.reduceEqDiff,Fa,a3,a4]
       refine az (S.store (i:=2) rfl Tryz.t47.2.1 (by intro x e;cases e) rfl rfl (lbt rfl) ono) ?_
       clear S;rintro h3 ⟨S,_⟩
       simp only [LC,ah,lay,Xf,Xg,Nat.reduceAdd]at S
       simp only [BS,LB,Nat.reduceLT,Nat.reduceEqDiff]
       refine az (ay S (i:=1) rfl Tryz.t48.2.2.1 a9 (Xc (lbt rfl)) ono) ?_
       clear S;rintro h4 ⟨S,_⟩
       simp only [LC]at S
       simp only [BS]
       refine df (eQ [H] _ (L:=[(C,_),(B,_)]) S.base fun h5 I=>?_)
       refine⟨rfl,(cK (by decide) (by simp only [aJ,ag,Nat.reduceEqDiff,reduceIte];exact cR Tryz.t47.1 Tryz.t47.2.1 (I.lds (b:=B) (o:=0) (n:=4) m1 (lbt rfl)))).2 ((cK (by decide) (by simp only [aJ,ag,Nat.reduceEqDiff,reduceIte];exact gu Tryz.t48.2.1 (I.ld (b:=C) (o:=0) m0 rfl))).2 (dD.2 ?_))⟩
       have gZ:Gr h0 h5:=(gA.fr.trans (S.rebase I).fr (fun c p=>.inr (by simp only [Xi,Xd,or_false]at p;omega)):Mo NoM h0 h5).gr
       exact⟨gZ,_,_,_,_,_,rfl,fun x hx=>(by rcases hx with h|h|h<;>exact h.elim),.inl ⟨.inr trivial,by rw [V,bh],rfl,rfl,rfl,rfl⟩⟩
     . obtain⟨w1,w2,w3,w4⟩:=AE (V.trans bh)
       have w1:=of_decide_eq_true w1
       have w2:=of_decide_eq_true w2
       have w3:=of_decide_eq_true w3
       obtain⟨s,rfl⟩:=XF w2.1
       obtain⟨w,rfl⟩:=XF w3.1
       have hs:s<j.nodes:=by omega
       have hw:w<j.nodes:=by omega
       have bk:s≠w:=fun e=>bi (by rw [e])
       unfold iZ at w4
       rw [Bool.and_eq_true]at w4
       obtain⟨cs,cv,bm,bn,bo,cx⟩:=P w4.1
       subst cv
       simp only [BS,LB,Nat.reduceLT,Nat.reduceEqDiff,Fa,a3,a4,bi]
       refine ae pM S ?_;clear S;intro h mm S dv
       simp only [BS,LB,Nat.reduceLT,Nat.reduceEqDiff,xd]
       refine az (S.mputI (i:=0) rfl Tryz.t138.1 Tryz.t3.1 qw _) ?_
       clear S;rintro h3 ⟨b3,d5,c1,M1,S⟩
       simp only [LC]at S
       simp only [BS,LB,Nat.reduceLT,Nat.reduceEqDiff,xd]
       refine az (S.mputI (i:=0) rfl Tryz.t138.1 Tryz.t3.1 M1 _) ?_
       clear S b3;rintro h3 ⟨b3,cz,c2,M2,S⟩
       simp only [LC]at S
       have cA:h3.get mm=some (.map cz c2):=(S.own _ m0).2
       have cL:=(a2 S.fr R7 n7).load1 (o:=0) rfl
       have lk:=pB (x:=way) Tryz.t138.1 Tryz.t3.1 (z:=.nilFunc) (by kernel_rfl) cA M2
       replace S:=S.drop1
       have cO:=a1 S.fr
       have d6:=S.fr.n
       have dx:H<h3.n:=S.key_lt (b:=H) (by simp [keys])
       have b4:=S.ok
       have cT:=a2 S.fr Rq nq
       have M: ∃gq:FuncId,dr zM h3 138 (.map (some mm)) (.int .i64 way) false=some (.func (.func gq) #[ptrTo G] #[])/\Ret zM gq [ptrTo G] h3 fun r J=>Gr h3 J/\ ∃vB vP,r=.tuple #[vB,vP]/\au J 1 bJ vB (if way=5 then lO j.nodes l.length R Q s w a else [])/\au J 1 (encI .i64) vP (sfP j.nodes l R Q ((lO j.nodes l.length R Q s w a).map fun(x:Nat)=>(x:Int)) way w)/\ ∀c,(ar vB c\/ar vP c)->h3.n<=c:=by
        rcases w1 with rfl|rfl
        . refine⟨_,lk,(AM b4).mono fun r J ⟨e,g⟩=>⟨g,_,_,e,.inl ⟨rfl,rfl⟩,.inl ⟨rfl,rfl⟩,fun c p=>p.elim (fun h=>h.elim) (fun h=>h.elim)⟩⟩
        . have w5:=w4.2
          simp only [ne_eq,not_true_eq_false,decide_false,Bool.false_or,decide_eq_true_eq]at w5
          obtain⟨cW,cX⟩:=w5
          subst cX
          obtain⟨m',t',lR,lQ⟩: ∃m',TabAt h0 m' pt j.nodes l R Q/\(∀i,i<l.length->(R i).length=j.nodes)/\ ∀i,i<l.length->(Q i).length=j.nodes:=by
           rcases T with h|⟨_,_,rfl⟩
           . exact h
           . simp at cW
          exact⟨_,lk,Ac b4 cT (t'.gr cO) lR lQ hl (by omega) hs hw⟩
       obtain⟨gq,cY,M⟩:=M
       simp only [BS,LB,Nat.reduceLT,Nat.reduceEqDiff,Fa,cL,cY]
       refine step_ret M ?_
       rintro r h4 ⟨g4,vB,vP,rfl,sB,sP,b5⟩
       replace S:=S.call g4
       have d7:=g4.n
       have c0:=S.fr.n
       simp only [BS,LB,Nat.reduceLT,Nat.reduceEqDiff]
       have br:=a1 S.fr
       have bs:=S.ok
       have bt:=a2 S.fr R7 n7
       have bu:=a2 S.fr R6 n6
       have p7:=bt.lt bs
       have p6:=bu.lt bs
       have a3:=bt.load1 (o:=1) rfl
       have a4:=bt.load1 (o:=2) rfl
       have c3:=bu.load1 (o:=0) rfl
       have c4:=bu.load1 (o:=1) rfl
       have S0:=S
       clear S
       have S:=Si bs
       rename Hp=>hR
       refine av (oI (ord:=[19,0,1,2,3,4,5,6,7,8,9,10,11,12,13,14,15,16,17,18,20,21]) rfl rfl (by simp only [gk,reix,gw,XM,XN,List.map_toArray,XB,XD,Nat.reduceBEq,cond_true,cond_false];exact rfl)) (q:=1) (ps:=[(0,16),(5,13),(3,13),(0,13),(7,12),(5,12),(3,12),(0,12)]) (by kernel_rfl) ?_
       simp only [BS,LB,cls,Nat.reducePow,Nat.reduceDiv,Nat.reduceMod,Nat.reduceLeDiff,Fa]
       refine eo ax S ?_;clear S;intro h N S c7 bv
       have da:=(S.row (b:=N) m0).lt S.ok
       have gB:=S.gr
       have nB:=gB.n
       simp only [BS,LB,cls,Nat.reduceLT,Nat.reduceEqDiff,Nat.reduceAdd,Nat.reducePow,Nat.reduceDiv,Nat.reduceMod,Nat.reduceLeDiff,Fa,gB.load a3,gB.load a4,gB.load c3,gB.load c4]
       refine cw (qR S.ok ((cs.gr br).gr gB) hw) ?_
       intro h g
       have e1:=aA g (show b6<_ by omega)
       have e2:=aA g (show b7<_ by omega)
       have e3:=aA g da
       have d8:=g.n
       replace S:=S.call g
       simp only [BS,LB,cls,Nat.reduceLT,Nat.reduceEqDiff,Nat.reduceAdd,Nat.reducePow,Nat.reduceDiv,Nat.reduceMod,Nat.reduceLeDiff]
       refine dp (allowF_ok S.ok ((bm.gr br).gr S.gr) (cx w hw) bn (by omega) bo) ?_
       rintro r h ⟨ai,bl,rfl,RA,nA⟩
       have e4:=aA ai (show b6<_ by omega)
       have e5:=aA ai (show b7<_ by omega)
       have e6:=aA ai (show N<_ by omega)
       have ea:=ai.n
       replace S:=S.call ai
       have dc:=slB_of RA
       simp only [BS,LB,cls,Nat.reduceLT,Nat.reduceEqDiff,Nat.reduceAdd,Nat.reducePow,Nat.reduceDiv,Nat.reduceMod,Nat.reduceLeDiff,Fa,sP.fl]
       refine dp (At S.ok al ((hn.gr br).gr S.gr) hs hw dc (.inr (by simp)) (sP.gr S.gr) (by unfold sfP;split;exact .inr (by simp);exact .inl rfl)) ?_
       rintro r h ⟨a5,v,O,rfl,⟨xA,xE,rfl,G1,G2,d1,d2⟩,he⟩
       have e7:=aA a5 (show b6<_ by omega)
       have e8:=aA a5 (show b7<_ by omega)
       have e9:=aA a5 (show N<_ by omega)
       have bx:Fl xA:=G1.fl
       have bB:Fl xE:=G2.fl
       replace S:=S.call a5
       simp only [BS,LB,cls,Nat.reduceLT,Nat.reduceEqDiff,Nat.reduceAdd,Nat.reducePow,Nat.reduceDiv,Nat.reduceMod,Nat.reduceLeDiff]
       refine dB (S.store (i:=0) rfl Tryz.t103.2.1 (by intro x e;cases e) rfl (by simp only [ah,Xp,Xt,bx.2.1,bB.2.1,Xb];rfl) (lbt rfl) ono) ?_
       have a7: ∀c,ar xA c\/ar xE c->c≠N:=fun c p e=>by
        have h1:_<=c:=p.elim (fun h=>(d1 c h).1) (fun h=>d2 c h)
        omega
       clear S;rintro a6 ⟨S,mo⟩
       simp only [LC,ah,lay,Xf,Xg,Nat.reduceAdd]at S
       simp only [BS,LB,cls,Nat.reduceLT,Nat.reduceEqDiff,Nat.reduceAdd,Nat.reducePow,Nat.reduceDiv,Nat.reduceMod,Nat.reduceLeDiff,Fa]
       refine⟨by simp only [a8,bC,aW,bI,aY,ne_eq,not_false_eq_true,bK,bZ,bj,aZ,bS,c9,aJ,Nat.reduceLT,Nat.reduceEqDiff,reduceIte,Xb,ag,lq,aQ e1,aM e1,aQ e2,aM e2,aQ e3,aM e3,aQ e4,aM e4,aQ e5,aM e5,aQ e6,aM e6,aQ e7,aM e7,aQ e8,aM e8,aQ e9,aM e9,<-bv],?_⟩
       have bL:=S.row (b:=N) m0
       have dd:au a6 1 bJ xA O.arcs:=(G1.sl rfl du (by decide)).mo mo (fun c p e=>a7 c (.inl p) e)
       have cb:au a6 4 iX xE O.ev:=(G2.sl rfl qx (by decide)).mo mo (fun c p e=>a7 c (.inr p) e)
       have de:=sB.gr S.gr
       have j0:=bL.load1 (o:=0) rfl
       have j1:=bL.load1 (o:=1) rfl
       have j2:=bL.load1 (o:=2) rfl
       have S1:=S0.call S.gr
       have D:N≠B/\N≠C:=⟨fun e=>by omega,fun e=>by omega⟩
       clear S
       have S:=S1
       clear S1
       have eb:H<hR.n:=S0.key_lt (b:=H) (by simp [keys])
       have ed:W.n<=hR.n:=S0.fr.n
       have ee:=gA.n
       have cg:=(he.resolve_left (fun h=>bk h.1)).2
       have Z:=V.trans bh
       by_cases hd:O.dist<FAR
       . have bP: ¬(72057594037927936:Int)<=(O.dist:Int):=by omega
         simp only [BS,LB,Nat.reduceLT,Nat.reduceEqDiff,j0,bP]
         refine av (aC rfl) (q:=0) (ps:=[(7,8)]) (by kernel_rfl) ?_
         simp only [BS,LB,cls,Nat.reduceLT,Nat.reduceEqDiff,Nat.reduceAdd,Nat.reducePow,Nat.reduceDiv,Nat.reduceMod,Nat.reduceLeDiff,Fa,j0,j1,j2,bx,sB.fl]
         refine dB (S.store (i:=2) rfl Tryz.t47.2.1 (by intro x e;cases e) rfl (by simp only [ah,Xp,Xt,bx.2.1,sB.fl.2.1,Xb];rfl) (lbt rfl) ono) ?_
         clear S;rintro h5 ⟨S,bX⟩
         simp only [LC,ah,lay,Xf,Xg,Nat.reduceAdd]at S
         simp only [BS,LB,cls,Nat.reduceLT,Nat.reduceEqDiff,Nat.reduceAdd,Nat.reducePow,Nat.reduceDiv,Nat.reduceMod,Nat.reduceLeDiff]
         refine dB (ay S (i:=1) rfl Tryz.t48.2.2.1 bB (Xc (lbt rfl)) ono) ?_
         clear S;rintro h6 ⟨S,bY⟩
         simp only [LC]at S
         simp only [BS,Nat.reduceAdd]
         refine⟨by simp only [a8,bC,aW,bI,aY,ne_eq,not_false_eq_true,bK,bZ,bj,aZ,bS,c9,aJ,Nat.reduceLT,Nat.reduceEqDiff,reduceIte,Xb,ag,lq,dV D.1,dV D.1.symm,dV D.2,dV D.2.symm,dV E,dV E.symm],?_⟩
         refine df (eQ [H] _ (L:=[(C,_),(B,_)]) S.base fun h7 I=>?_)
         refine⟨rfl,(cK (by decide) (by simp only [aJ,ag,Nat.reduceEqDiff,reduceIte];exact cR Tryz.t47.1 Tryz.t47.2.1 (I.lds (b:=B) (o:=0) (n:=4) m1 (lbt rfl)))).2 ((cK (by decide) (by simp only [aJ,ag,Nat.reduceEqDiff,reduceIte];exact gu Tryz.t48.2.1 (I.ld (b:=C) (o:=0) m0 rfl))).2 (dD.2 ?_))⟩
         have gZ:=a1 (S.rebase I).fr
         have bE: ∀{α:Type} {k:Nat} {ak:α->List Value} {u:Value} {xs:List α},au a6 k ak u xs->(∀c,ar u c->c≠B/\c≠C/\c≠H)->au h7 k ak u xs:=fun s K=>((s.mo bX (fun c p e=>(K c p).1 e)).mo bY (fun c p e=>(K c p).2.1 e)).mo I.fr (fun c p hm=>by
          have:=K c p
          simp [keys]at hm
          omega)
         have zE:=bE cb (fun c p=>by have:=d2 c p;exact⟨by omega,by omega,by omega⟩)
         have zA:=bE dd (fun c p=>by have:=(d1 c p).1;exact⟨by omega,by omega,by omega⟩)
         have zB:=bE de (fun c p=>by have:=b5 c (.inl p);have:=c0;exact⟨by omega,by omega,fun e=>by omega⟩)
         exact⟨gZ,_,_,_,_,_,rfl,fun x hx=>(by rcases hx with h|h|h;(have:=(d1 x h).1;omega);(have:=b5 x (.inl h);omega);(have:=d2 x h;omega)),.inr ⟨Z,s,w,O,rfl,rfl,bk,hs,hw,cg,zE,.inr ⟨hd,rfl,rfl,zA,zB⟩⟩⟩
       . have bP:(72057594037927936:Int)<=(O.dist:Int):=by omega
         simp only [BS,LB,Nat.reduceLT,Nat.reduceEqDiff,j0,bP]
         refine av (aC rfl) (q:=0) (ps:=[(2,3)]) (by kernel_rfl) ?_
         simp only [BS,LB,cls,Nat.reduceLT,Nat.reduceEqDiff,Nat.reduceAdd,Nat.reducePow,Nat.reduceDiv,Nat.reduceMod,Nat.reduceLeDiff,Fa,j2]
         refine dB (S.store (i:=2) rfl Tryz.t47.2.1 (by intro x e;cases e) rfl (rfl) (lbt rfl) ono) ?_
         clear S;rintro h5 ⟨S,bX⟩
         simp only [LC,ah,lay,Xf,Xg,Nat.reduceAdd]at S
         simp only [BS,LB,cls,Nat.reduceLT,Nat.reduceEqDiff,Nat.reduceAdd,Nat.reducePow,Nat.reduceDiv,Nat.reduceMod,Nat.reduceLeDiff]
         refine dB (ay S (i:=1) rfl Tryz.t48.2.2.1 bB (Xc (lbt rfl)) ono) ?_
         clear S;rintro h6 ⟨S,bY⟩
         simp only [LC]at S
         simp only [BS,Nat.reduceAdd]
         refine⟨by simp only [a8,bC,aW,bI,aY,ne_eq,not_false_eq_true,bK,bZ,bj,aZ,bS,c9,aJ,Nat.reduceLT,Nat.reduceEqDiff,reduceIte,Xb,ag,lq,dV D.1,dV D.1.symm,dV D.2,dV D.2.symm,dV E,dV E.symm],?_⟩
         refine df (eQ [H] _ (L:=[(C,_),(B,_)]) S.base fun h7 I=>?_)
         refine⟨rfl,(cK (by decide) (by simp only [aJ,ag,Nat.reduceEqDiff,reduceIte];exact cR Tryz.t47.1 Tryz.t47.2.1 (I.lds (b:=B) (o:=0) (n:=4) m1 (lbt rfl)))).2 ((cK (by decide) (by simp only [aJ,ag,Nat.reduceEqDiff,reduceIte];exact gu Tryz.t48.2.1 (I.ld (b:=C) (o:=0) m0 rfl))).2 (dD.2 ?_))⟩
         have gZ:=a1 (S.rebase I).fr
         have bE: ∀{α:Type} {k:Nat} {ak:α->List Value} {u:Value} {xs:List α},au a6 k ak u xs->(∀c,ar u c->c≠B/\c≠C/\c≠H)->au h7 k ak u xs:=fun s K=>((s.mo bX (fun c p e=>(K c p).1 e)).mo bY (fun c p e=>(K c p).2.1 e)).mo I.fr (fun c p hm=>by
          have:=K c p
          simp [keys]at hm
          omega)
         have zE:=bE cb (fun c p=>by have:=d2 c p;exact⟨by omega,by omega,by omega⟩)
         exact⟨gZ,_,_,_,_,_,rfl,fun x hx=>(by rcases hx with h|h|h;exact h.elim;exact h.elim;(have:=d2 x h;omega)),.inr ⟨Z,s,w,O,rfl,rfl,bk,hs,hw,cg,zE,.inl ⟨by omega,rfl,rfl,rfl,rfl⟩⟩⟩
   . refine⟨Y,U.get m0,by rw [st];decide,?_⟩
     rw [pe]
     replace U:=U.dead
     show Run _ _ _ _ _ _ _ _
     simp only [BS]
     refine df (eQ [H] _ (L:=[(C,_),(B,_)]) U.base fun h5 I=>?_)
     refine⟨rfl,(cK (by decide) (by simp only [aJ,ag,Nat.reduceEqDiff,reduceIte];exact cR Tryz.t47.1 Tryz.t47.2.1 (I.lds (b:=B) (o:=0) (n:=4) m1 (lbt rfl)))).2 ((cK (by decide) (by simp only [aJ,ag,Nat.reduceEqDiff,reduceIte];exact gu Tryz.t48.2.1 (I.ld (b:=C) (o:=0) m0 rfl))).2 (dD.2 ?_))⟩
     have gZ:Gr h0 h5:=(gA.fr.trans (U.rebase I).fr (fun c p=>.inr (by simp only [Xi,Xd,or_false]at p;omega)):Mo NoM h0 h5).gr
     exact⟨gZ,_,_,_,_,_,rfl,fun x hx=>(by rcases hx with h|h|h<;>exact h.elim),.inl ⟨.inl (by rw [V];exact Z),by rw [V],rfl,rfl,rfl,rfl⟩⟩
   . cases hz
end Go.Ab
end
section
namespace Go.Ab
section
variable{key:Nat->Int}{n m:Nat}
theorem jj{α:Type}{f:α->Int}{d:Int}: ∀(l:List α) (b:Int),l.foldl (fun b i=>max b (f i)) b<=d↔b<=d/\ ∀i∈l,f i<=d
 | [],b=>by simp
 | x::l,b=>by
   rw [XQ,jj l]
   simp only [Xi,forall_eq_or_imp]
   constructor
   . rintro⟨c,a⟩;exact⟨by omega,by omega,a⟩
   . rintro⟨c,a,e⟩;exact⟨by omega,e⟩
end
end Go.Ab

end
section
namespace Go.Ab
open Go.Proofs
set_option maxRecDepth 10000
section
variable{γ:Gra}{l:List Int}
theorem zY(e: ∀{s:Nat},s<γ.nodes-> ∀v,IsD (seen γ.arcs Arc.t Arc.s) s v (dOf (seen γ.arcs Arc.t Arc.s) s v))(f: ∀{s:Nat},s<γ.nodes-> ∀v,IsD (seen γ.arcs Arc.s Arc.t) s v (dOf (seen γ.arcs Arc.s Arc.t) s v))(t:fJ γ.nodes l)
 {v u w d:Nat} (x:v<γ.nodes) (y:u<γ.nodes) (z:w<γ.nodes) (A:IsD (seen γ.arcs Arc.s Arc.t) v u d) (k:d<FAR) (i:Int):fh γ.nodes l.length (toR γ l) (frR γ l) i v w<=d+fh γ.nodes l.length (toR γ l) (frR γ l) i u w:=by
 unfold fh
 by_cases a:0<=i/\i<(l.length:Int)
 . rw [if_pos ⟨by omega,by omega,a⟩,if_pos ⟨by omega,by omega,a⟩]
   obtain⟨i,rfl⟩:=XF a.1
   have a:i<l.length:=by omega
   have E:=t.2 i a
   obtain⟨s,B⟩: ∃s:Nat,l.getD i 0=s:=⟨(l.getD i 0).toNat,by omega⟩
   have b:s<γ.nodes:=by omega
   rw [uJ a x,uJ a z,uJ a y,uv a x,uv a z,uv a y,B,Int.toNat_natCast]
   have F:=fj
   have G:=(e b v).le
   have H:=(e b w).le
   have I:=(f b v).le
   have J:=(f b w).le
   have K:=(e b u).le
   have L:=(f b u).le
   have t1:=fun c=>tri_to (seen_back γ.arcs) A (e b v) (e b u) k c
   have t2:=fun c=>tri_fr A (f b v) (f b u) k c
   rw [qp (by omega) (by omega),qp (by omega) (by omega),qp (by omega) (by omega),qp (by omega) (by omega)]
   generalize dOf (seen γ.arcs Arc.t Arc.s) s v=m at*
   generalize dOf (seen γ.arcs Arc.t Arc.s) s u=g at*
   generalize dOf (seen γ.arcs Arc.t Arc.s) s w=n at*
   generalize dOf (seen γ.arcs Arc.s Arc.t) s v=j at*
   generalize dOf (seen γ.arcs Arc.s Arc.t) s u=o at*
   generalize dOf (seen γ.arcs Arc.s Arc.t) s w=p at*
   have C:g<FAR->m<=d+g:=fun h=>(t1 h).2
   have q:g<FAR->m<FAR:=fun h=>(t1 h).1
   have D:j<FAR->o<=j+d:=fun h=>(t2 h).2
   have r:j<FAR->o<FAR:=fun h=>(t2 h).1
   clear t1 t2 e f t
   have M:(if n<72057594037927936 then(if m<72057594037927936 then max 0 ((m:Int)-n)else 72057594037927936)else 0)<=d+(if n<72057594037927936 then(if g<72057594037927936 then max 0 ((g:Int)-n)else 72057594037927936)else 0):=by
    by_cases c:g<FAR
    . have:=C c
      have:=q c
      repeat' split
      all_goals omega
    . repeat' split
      all_goals omega
   have N:(if j<72057594037927936 then(if p<72057594037927936 then max 0 ((p:Int)-j)else 72057594037927936)else 0)<=d+(if o<72057594037927936 then(if p<72057594037927936 then max 0 ((p:Int)-o)else 72057594037927936)else 0):=by
    by_cases c:j<FAR
    . have:=D c
      have:=r c
      repeat' split
      all_goals omega
    . repeat' split
      all_goals omega
   omega
 . rw [if_neg (fun h=>a h.2.2),if_neg (fun h=>a h.2.2)]
   omega
theorem vW(b: ∀{s:Nat},s<γ.nodes-> ∀v,IsD (seen γ.arcs Arc.t Arc.s) s v (dOf (seen γ.arcs Arc.t Arc.s) s v))(c: ∀{s:Nat},s<γ.nodes-> ∀v,IsD (seen γ.arcs Arc.s Arc.t) s v (dOf (seen γ.arcs Arc.s Arc.t) s v))(e:fJ γ.nodes l)
 {v u w d:Nat} (g:v<γ.nodes) (j:u<γ.nodes) (k:w<γ.nodes) (m:IsD (seen γ.arcs Arc.s Arc.t) v u d) (a:d<FAR) (act:List Int):fT γ.nodes l.length (toR γ l) (frR γ l) v w act<=d+fT γ.nodes l.length (toR γ l) (frR γ l) u w act:=by
 have h:=(jj (f:=fun i=>fh γ.nodes l.length (toR γ l) (frR γ l) i u w) act 0).1 (XJ _)
 refine(jj (f:=fun i=>fh γ.nodes l.length (toR γ l) (frR γ l) i v w) act 0).2 ⟨?_,fun i n=>?_⟩
 . have:=h.1
   unfold fT
   omega
 . have o:=zY b c e g j k m a i
   have p:=h.2 i n
   unfold fT
   omega
theorem iC{N n:Nat}{R Q:Nat->List Int}{v w:Int}{act:List Int}:0<=fT N n R Q v w act:=((jj (f:=fun i=>fh N n R Q i v w) act 0).1 (XJ _)).1
theorem pN{N v:Nat}{f:Nat->Int}(a:v<N)(h0:0<=f v):piF ((Xe N).map f) v=f v:=by
 have b:=fj
 unfold piF
 rw [if_neg (by intro h;have:=congrArg X2 h;simp at this;omega)]
 have:((Xe N).map f).getD v 0=f v:=by simp [zO,a]
 rw [this]
 omega
theorem pi_feas(k: ∀{s:Nat},s<γ.nodes-> ∀v,IsD (seen γ.arcs Arc.t Arc.s) s v (dOf (seen γ.arcs Arc.t Arc.s) s v))(f: ∀{s:Nat},s<γ.nodes-> ∀v,IsD (seen γ.arcs Arc.s Arc.t) s v (dOf (seen γ.arcs Arc.s Arc.t) s v))(m:fJ γ.nodes l)(b:Good γ)
 {w:Nat} (n:w<γ.nodes) (act:List Int) (al:Nat->Bool):Feas γ.arcs al (piF ((Xe γ.nodes).map fun(v:Nat)=>fT γ.nodes l.length (toR γ l) (frR γ l) v w act)):=by
 intro i g _
 have c:γ.arcs.getD i default∈γ.arcs:=by rw [zO,Xa g];exact Xj g
 generalize γ.arcs.getD i default=a at c
 obtain⟨d,h,o⟩:=b.arcs a c
 rw [pN d iC,pN h iC]
 have j:=f d a.t
 have e:Wk (seen γ.arcs Arc.s Arc.t) a.s a.t (0+a.w):=by rw [kY];exact .snoc c .nil
 have p:=j.wk e
 have:=vW k f m d h n j (by have:=fj;omega) act
 omega
end
end Go.Ab

end
section
namespace Go.Ab
open Go.Proofs
set_option maxRecDepth 10000
theorem Ad{N n:Nat}{R Q:Nat->List Int}{i v:Int}:fh N n R Q i v v=0:=by
 have: ∀x:Int,lS x x=0:=fun x=>by unfold lS wy;repeat' split;all_goals omega
 unfold fh
 split
 . rw [this,this];rfl
 . rfl
theorem uR{N n:Nat}{R Q:Nat->List Int}{v:Int}(act:List Int):fT N n R Q v v act=0:=by
 refine Int.le_antisymm ((jj (f:=fun i=>fh N n R Q i v v) act 0).2 ⟨XJ _,fun i _=>?_⟩) iC
 show fh N n R Q i v v<=0
 rw [Ad]
 exact XJ _
theorem qG{A:List Arc}{al:Nat->Bool}{pi:Nat->Int}{a:Arc}(h:a∈iJ A al pi):a∈A:=by
 obtain⟨i,b,_,rfl⟩:=kZ.1 h
 rw [zO,Xa b];exact Xj b
theorem tv{A:List Arc}{al:Nat->Bool}{pi:Nat->Int}{to:Nat}{σ:SS}{r:Fd}(h:Ends A al pi to σ r)(h0: ∀v,σ.K v=none):r=⟨FAR,[],σ.ev⟩:=h.uniq (.none h0)
theorem wk_first{A:List Arc}{N v u x:Nat}(b: ∀a∈A,a.s<N)(h:Wk A v u x):v=u\/v<N:=by
 induction h with
 |nil=>exact .inl rfl
 | snoc c _ d=>
   rcases d with e|h
   . exact .inr (by rw [e];exact b _ c)
   . exact .inr h
section
variable{γ:Gra}{l:List Int}
end
end Go.Ab

end
section
namespace Go.Ab
open Go.Proofs
set_option maxRecDepth 10000
def mO(l:List Ev):List Nat:=l.filterMap fun e=>if e.kind=0 then some e.id else none
def pb(A:List Arc)(a:Nat->Nat->Prop)(l:List Ev):Prop:= ∀(i:Nat) (h:i<l.length),(l[i].kind=1/\l[i].id<A.length/\(A.getD l[i].id default).s∈mO (l.take i))\/(l[i].kind=0/\l[i].id∉mO (l.take i)/\a l[i].id l[i].lab)
theorem pb.snoc{A:List Arc}{a:Nat->Nat->Prop}{l:List Ev}{e:Ev}(h:pb A a l)(c:(e.kind=1/\e.id<A.length/\(A.getD e.id default).s∈mO l)\/(e.kind=0/\e.id∉mO l/\a e.id e.lab)):pb A a (l++[e]):=by
 intro i d
 by_cases b:i<l.length
 . rw [List.getElem_append_left b,List.take_append_of_le_length (by omega)]
   exact h i b
 . have:i=l.length:=by simp at d;omega
   subst this
   rw [List.getElem_concat_length rfl,List.take_left]
   exact c
theorem tP(l:List Ev)(e:Ev):mO (l++[e])=mO l++if e.kind=0 then [e.id]else []:=by
 unfold mO
 rw [List.filterMap_append]
 by_cases h:e.kind=0<;>simp [h]
theorem gG{pi:Nat->Int}{σ:SS}{v lab:Nat}{p:List Nat}:(dA pi σ v lab p).ev=σ.ev/\(dA pi σ v lab p).O=σ.O:=by
 unfold dA
 split<;>exact⟨rfl,rfl⟩
section
variable{A:List Arc}{N s:Nat}{al:Nat->Bool}{pi:Nat->Int}{ok:Nat->Nat->Prop}
def EvI(A:List Arc)(ok:Nat->Nat->Prop)(σ:SS):Prop:=pb A ok σ.ev/\mO σ.ev=σ.O
theorem EvI.scan1{σ:SS}(h:EvI A ok σ){v a:Nat}(b:v∈σ.O)(c:a<A.length)(d:(A.getD a default).s=v):EvI A ok (scan1 A al pi v σ a)/\(scan1 A al pi v σ a).O=σ.O:=by
 unfold Ab.scan1
 split
 . refine⟨⟨?_,?_⟩,gG.2⟩
   . rw [gG.1]
     exact h.1.snoc (.inl ⟨rfl,c,by rw [h.2];show(A.getD a default).s∈_;rw [d];exact b⟩)
   . rw [gG.1,gG.2]
     show mO (σ.ev++[_])=σ.O
     rw [tP,h.2]
     simp
 . exact⟨h,rfl⟩
theorem EvI.scanL{v:Nat}: ∀(l:List Nat) {σ:SS},EvI A ok σ->v∈σ.O->(∀a∈l,a<A.length/\(A.getD a default).s=v)->EvI A ok (l.foldl (Ab.scan1 A al pi v) σ)
 | [],_,h,_,_=>h
 | a::l,σ,h,d,c=>by
   have e:=h.scan1 (al:=al) (pi:=pi) d (c a List.mem_cons_self).1 (c a List.mem_cons_self).2
   exact EvI.scanL l e.1 (by rw [e.2];exact d) (fun b f=>c b (XW _ f))
theorem EvI.close{σ:SS}(h:EvI A ok σ){v:Nat}(a:v∉σ.O)(b:ok v (σ.L v)):EvI A ok (cU σ v):=by
 refine⟨h.1.snoc (.inr ⟨rfl,by rw [h.2];exact a,b⟩),?_⟩
 show mO (σ.ev++[_])=σ.O++[v]
 rw [tP,h.2]
 simp
theorem ends_near{to:Nat}{σ:SS}{r:Fd}(j: ∀a∈A,a.t<N/\a.w<=cG)(l:Feas A al pi)(d:Ends A al pi to σ r)
 (H: ∀{e:SS} {v:Nat} {k:Int},Sv A N s al pi e->Fe A s al pi e (fun _=>False)->to∉e.O->Pops e.K v k->ok v (e.L v)):
 Sv A N s al pi σ->Fe A s al pi σ (fun _=>False)->to∉σ.O->EvI A ok σ->pb A ok r.ev:=by
 induction d with
 |none q=>intro _ _ _ h;exact h.1
 | @hit σ k b=>intro h f g d;exact(d.close (h.op _ _ b.1).2.1 (H h f g b)).1
 | @step σ v k r b i _ m=>
   intro h f g d
   obtain⟨n,o⟩:=h.next j b.1
   refine m n (f.next h l b) ?_ ?_
   . rw [o.O]
     intro c
     rcases List.mem_append.1 c with c|c
     . exact g c
     . simp at c;exact i c.symm
   . exact EvI.scanL _ (d.close (h.op _ _ b.1).2.1 (H h f g b)) (XT _ (List.mem_singleton.2 rfl)) (fun a p=>fU.1 p)
theorem evI_init:EvI A ok (dM pi s):=by
 unfold dM
 refine⟨?_,?_⟩
 . rw [gG.1];intro i a;cases a
 . rw [gG.1,gG.2];rfl
end
section
variable{γ:Gra}{l:List Int}
end
end Go.Ab

end
section
namespace Go.Ab
open Go.Proofs
set_option maxRecDepth 10000
section
variable{γ:Gra}{s w:Nat}{l:List Int}
theorem flag_on(k:Good γ){to:Nat}{c:Nat->Nat}{f:List Bool}(g: ∀i,i<γ.arcs.length->(alF f i=true↔i∈cZ γ c (c to))): ∀a,a∈iJ γ.arcs (alF f) (piF [])↔a∈γ.arcs/\onF γ.arcs (fun v b=>dOf (seen γ.arcs Arc.t Arc.s) b v) c (c to) a:=by
 intro a
 have o:=fj
 rw [kZ]
 have q: ∀i,i<γ.arcs.length->(i∈cZ γ c (c to)↔onF γ.arcs (fun v b=>dOf (seen γ.arcs Arc.t Arc.s) b v) c (c to) (γ.arcs.getD i default)):=fun i d=>by
  rw [AH d]
  unfold insB onF iL
  rw [decide_eq_true_iff]
  refine or_congr Iff.rfl ⟨?_,?_⟩
  . rintro⟨b,j,h⟩
    obtain⟨_,j⟩:=List.mem_filter.1 j
    exact⟨b,xW.1 j,of_decide_eq_true h⟩
  . rintro⟨b,j,h⟩
    obtain⟨p,e,n,rfl,r⟩:=j
    exact⟨e.t,List.mem_filter.2 ⟨List.mem_range.2 (k.arcs e n).2.1,xW.2 ⟨p,e,n,rfl,r⟩⟩,decide_eq_true h⟩
 constructor
 . rintro⟨i,d,m,rfl⟩
   exact⟨by rw [zO,Xa d];exact Xj d,(q i d).1 ((g i d).1 m.1)⟩
 . rintro⟨t,u⟩
   obtain⟨i,d,rfl⟩:=List.mem_iff_getElem.1 t
   have e:γ.arcs.getD i default=γ.arcs[i]:=by simp [zO,d]
   refine⟨i,d,⟨(g i d).2 ((q i d).2 (by rw [e];exact u)),?_,?_⟩,e⟩<;>rw [show piF []=fun _=>(0:Int)from funext fun v=>if_pos rfl]<;>show(0:Int)<_<;>omega
theorem wk_hArcsO{A c:List Arc}{to:Nat}{al:Nat->Bool}{pi:Nat->Int}(j: ∀a∈c,a∈A/\ ∃i,i<A.length/\al i=true/\A.getD i default=a)(d: ∀v x,Wk A v to x->pi v<(FAR:Int)){v x:Nat}(h:Wk c s v x):(∃y,Wk A v to y)->Wk (iJ A al pi) s v x:=by
 induction h with
 |nil=>intro _;exact .nil
 | @snoc z a k _ m=>
   rintro⟨y,f⟩
   obtain⟨b,i,n,o,e⟩:=j a k
   have g:Wk A a.s to (0+a.w+y):=(Wk.snoc b .nil).trans f
   exact .snoc (kZ.2 ⟨i,n,⟨o,by rw [e];exact d _ _ g,by rw [e];exact d _ _ f⟩,e⟩) (m ⟨_,g⟩)
theorem AD (H: ∀{s:Nat},s<γ.nodes-> ∀v,IsD (seen γ.arcs Arc.t Arc.s) s v (dOf (seen γ.arcs Arc.t Arc.s) s v)) (I: ∀{s:Nat},s<γ.nodes-> ∀v,IsD (seen γ.arcs Arc.s Arc.t) s v (dOf (seen γ.arcs Arc.s Arc.t) s v)) (g:Good γ) (t:s<γ.nodes) (J:w<γ.nodes) {c:Nat->Nat} {f:List Bool} (u: ∀i,i<γ.arcs.length->(alF f i=true↔i∈cZ γ c (c w)))
 {pi:Nat->Int} (K:Feas γ.arcs (alF f) pi) (p: ∀v x,Wk γ.arcs v w x->pi v<(FAR:Int)) {k:Fd} (y:Ends γ.arcs (alF f) pi w (dM pi s) k):
 IsD γ.arcs s w k.dist/\(k.dist<FAR->kE γ.arcs s k.arcs w k.dist/\Wk (iJ γ.arcs (alF f) pi) s w k.dist):=by
 have E: ∀a∈γ.arcs,a.t<γ.nodes/\a.w<=cG:=fun a n=>⟨(g.arcs a n).2.1,(g.arcs a n).2.2⟩
 have L:=fj
 have z:=flag_on g u
 have m:=I t w
 rw [kY]at m
 have M:=Ap (A:=γ.arcs) (N:=γ.nodes) (fun a n=>⟨(g.arcs a n).1,(g.arcs a n).2.1⟩) (d:=fun v b=>dOf (seen γ.arcs Arc.t Arc.s) b v) (fun v b Y O=>isD_back (H O v)) z t J rfl m
 have F:=ends_path (N:=γ.nodes) E y (pL t)
 have P: ∀a∈iJ γ.arcs (alF f) (piF []),a∈γ.arcs/\ ∃i,i<γ.arcs.length/\alF f i=true/\γ.arcs.getD i default=a:=fun a n=>by
  obtain⟨i,Q,B,e⟩:=kZ.1 n
  exact⟨qG n,i,Q,B.1,e⟩
 have C: ¬pi s<(FAR:Int)->k.dist=FAR:=fun j=>by
  have R: ∀v,(dM pi s).K v=none:=fun v=>by
   unfold dM dA
   split
   . rfl
   . rename_i S
     simp only [not_or]at S
     exact absurd (by omega) j
  rw [tv y R]
 have r:pi s<(FAR:Int)->IsD (iJ γ.arcs (alF f) pi) s w k.dist:=fun j=>ends_isD E g.n2 K y (pL t) (fe_init j) (by unfold dM;rw [gG.2];exact fun h=>by cases h)
 by_cases D:dOf γ.arcs s w<FAR
 . have T:=m.far D
   have U:=M.far D
   have o:=r (p s _ T)
   have V:=wk_hArcsO P p U ⟨0,.nil⟩
   have q:=o.wk V
   have W:=(o.far q.1).mono (fun _=>qG)
   have G:=m.wk W
   have e:k.dist=dOf γ.arcs s w:=by omega
   rw [e]
   rw [e]at F o
   exact⟨m,fun h=>⟨F h,o.far h⟩⟩
 . have e:k.dist=FAR:=by
    by_cases j:pi s<(FAR:Int)
    . have o:=r j
      by_cases h:k.dist<FAR
      . have G:=m.wk ((o.far h).mono (fun _=>qG))
        exact absurd G.1 D
      . have:=o.le
        omega
    . exact C j
   have X:dOf γ.arcs s w=FAR:=by have:=m.le;omega
   rw [X]at m
   rw [e]
   exact⟨m,fun h=>absurd h (Nat.lt_irrefl _)⟩
theorem Ao(c:Good γ)(p:s<γ.nodes){b:List Bool}{pi:Nat->Int}(g:Feas γ.arcs (alF b) pi)(q:pi w=0){d:Fd}(j:Ends γ.arcs (alF b) pi w (dM pi s) d)(r:Wk (iJ γ.arcs (alF b) pi) s w d.dist):
 pb γ.arcs (fun v x=>v<γ.nodes/\(x:Int)+pi v<=d.dist) d.ev:=by
 have t: ∀a∈γ.arcs,a.t<γ.nodes/\a.w<=cG:=fun a m=>⟨(c.arcs a m).2.1,(c.arcs a m).2.2⟩
 by_cases e:pi s<(FAR:Int)
 . refine ends_near (N:=γ.nodes) t g j (fun {D v k} h f u n=>?_) (pL p) (fe_init e) ?_ evI_init
   . obtain⟨y,_,_,E⟩:=h.op v k n.1
     obtain⟨_,z⟩:=f.popped h g n
     have A:=z w d.dist u r
     rw [q]at A
     exact⟨y,by omega⟩
   . unfold dM
     rw [gG.2]
     exact fun h=>by cases h
 . have B: ∀v,(dM pi s).K v=none:=fun v=>by
    unfold dM dA
    split
    . rfl
    . rename_i C
      simp only [not_or]at C
      exact absurd (by omega) e
   rw [tv j B]
   have:(dM pi s).ev=[]:=by unfold dM;rw [gG.1]
   intro i o
   rw [this]at o
   cases o
end
end Go.Ab

end
section
namespace Go.Ab
open Go.Proofs
set_option maxRecDepth 10000
def Tryz.F0b:=aj t1<|aj t2<|aj t3<|aj t4<|aj Z8<|aj Z0<|aj t32<|aj t33<|aj t45<|aj t47<|aj r47<|aj t149<|Z1
theorem pY{h0:Hp}(a:h0.t.Sized h0.n):aK zM 25 [] h0 (.bool true):=ret_orc rfl ⟨rfl,Gr.refl a⟩
theorem yF{h0:Hp}(l:h0.t.Sized h0.n){m d f g i:Value}(q:Fl d)(r:Fl f)(s:Fl g)(t:Fl i){c:Int}(p:c≠0):aK zM 28 [m,.agg ⟨[d,f,g,i]⟩,ansV c 0 (.slice none 0 0) (.slice none 0 0)] h0 (.bool true):=by
 have S:=Si l
 refine ab (n:=45) (rs:=[.tmp 6]) rfl Tryz.e28 rfl rfl rfl (lbt rfl) ?_
 simp only [BS,Nat.reduceLT,ansV]
 refine ae (bg (by intro x e;cases e)) S ?_;clear S;intro h u S j;simp only [ah]at S
 simp only [BS,Nat.reduceLT,Nat.reduceEqDiff,if_false]
 refine ae (bg (by intro x e;cases e)) S ?_;clear S;intro h a S k;simp only [ah]at S
 simp only [BS,LB,ac,Nat.reduceLT,Nat.reduceEqDiff,Xl,F0b,p,S.ld (b:=a) (o:=0) m0 rfl,S.ld (b:=a) (o:=1) m0 rfl,S.ld (b:=a) (o:=2) m0 rfl,S.ld (b:=a) (o:=3) m0 rfl]
 exact S.gr
theorem yJ{h0:Hp}(v:h0.t.Sized h0.n){f:Gra}(i:Good f){w j:Nat}(y:aR h0 w (ptrTo j) f){k l vA m:Value}{a:List Nat}{s t d:Nat}(D:Fl k)(E:Fl l)(z:s<f.nodes)(p:au h0 1 bJ vA a)(F:Fl m)(A:a.length<=1000)(B:kE f.arcs s a t d):aK zM 28 [ptrTo j,.agg ⟨[k,.int .i64 (s:Nat),.int .i64 (t:Nat),l]⟩,ansV 0 (d:Nat) vA m] h0 (.bool true):=by
 have S:=Si v
 have G:=p.fl
 refine ab (n:=45) (rs:=[.tmp 6]) rfl Tryz.e28 rfl rfl rfl (lbt rfl) ?_
 simp only [BS,Nat.reduceLT,ansV]
 refine ae (bg (by intro x e;cases e)) S ?_;clear S;intro h g S q;simp only [ah]at S
 simp only [BS,Nat.reduceLT,Nat.reduceEqDiff,if_false]
 refine ae (bg (by intro x e;cases e)) S ?_;clear S;intro h c S u;simp only [ah]at S
 simp only [BS,LB,Nat.reduceLT,Nat.reduceEqDiff,F0b,S.ld (b:=g) (o:=1) m1 rfl,S.ld (b:=g) (o:=2) m1 rfl,S.ld (b:=c) (o:=0) m0 rfl,S.ld (b:=c) (o:=1) m0 rfl,S.ld (b:=c) (o:=2) m0 rfl]
 refine step_ret (wJ S.ok i (y.gr S.gr) z (p.gr S.gr) A B (t:=t) (.inl rfl)) ?_
 rintro r H ⟨C,rfl⟩
 replace S:=S.call C
 simp only [BS,LB,ac,Nat.reduceLT,Nat.reduceEqDiff,F0b,S.ld (b:=g) (o:=1) m1 rfl,S.ld (b:=g) (o:=2) m1 rfl,S.ld (b:=c) (o:=0) m0 rfl,S.ld (b:=c) (o:=1) m0 rfl,S.ld (b:=c) (o:=2) m0 rfl]
 exact S.gr
theorem uP{a:Gra}{l:List Int}{i:Nat}:(toR a l i).length=a.nodes:=by unfold toR;exact lP _ _ _
theorem uF{a:Gra}{l:List Int}{i:Nat}:(frR a l i).length=a.nodes:=by unfold frR;exact lP _ _ _
theorem sfP_feas{b:Gra}{l act:List Int}{R Q:Nat->List Int}{way:Int}(g: ∀{s:Nat},s<b.nodes-> ∀v,IsD (seen b.arcs Arc.t Arc.s) s v (dOf (seen b.arcs Arc.t Arc.s) s v))(f: ∀{s:Nat},s<b.nodes-> ∀v,IsD (seen b.arcs Arc.s Arc.t) s v (dOf (seen b.arcs Arc.s Arc.t) s v))(n:way=5->fJ b.nodes l/\R=toR b l/\Q=frR b l)(c:Good b){w:Nat}(d:w<b.nodes)(al:Nat->Bool):
 Feas b.arcs al (piF (sfP b.nodes l R Q act way w))/\(∀v x,Wk b.arcs v w x->piF (sfP b.nodes l R Q act way w) v<(FAR:Int))/\piF (sfP b.nodes l R Q act way w) w=0/\ ∀v,v<b.nodes->way=5->piF (sfP b.nodes l R Q act way w) v=fT b.nodes l.length (toR b l) (frR b l) v w act:=by
 have o:=fj
 by_cases h:way=5
 . obtain⟨j,rfl,rfl⟩:=n h
   unfold sfP
   rw [if_pos h]
   refine⟨pi_feas g f j c d act al,fun v x k=>?_,by rw [pN d iC,uR],fun v e _=>pN e iC⟩
   have e:v<b.nodes:=(wk_first (fun a p=>(c.arcs a p).1) k).elim (fun h=>by rw [h];exact d) (fun h=>h)
   rw [pN e iC]
   have m:=f e w
   have q:=m.wk (by rw [kY];exact k)
   have:=vW g f j e d d m q.1 act
   rw [uR]at this
   omega
 . unfold sfP
   rw [if_neg h]
   have r:piF []=fun _=>(0:Int):=funext fun v=>if_pos rfl
   rw [r]
   exact⟨fun i u _=>(by show(0:Int)<=_+0;omega),fun v x _=>(by show(0:Int)<_;omega),rfl,fun v _ t=>absurd t h⟩
theorem Ae{h0:Hp}{d:Gra}{j l n e k o f a:Nat}{m:List Int}{p q:Nat->Nat}(b:Good d)(r:aR h0 l (ptrTo j) d)(c:fm h0 n (ptrTo e) d.nodes m p)(i:gb m+1=((f:Nat):Int))(s:ik h0 k o f d.arcs.length a q): ∀h,Gr h0 h->aK zM 188 [ptrTo j,ptrTo e,ptrTo k] h (.bool true):=by
 intro h g
 have u:=b.n2
 have t:=c.len
 have:=yO g.ok (r.gr g) (.inr ⟨⟨_,c.at0.gr g⟩,i.symm⟩:jW h (ptrTo e) m (f:Int)) (s.gr g).bits b.n1 (by omega)
 rw [t]at this
 simpa using this
theorem qu{h0:Hp}(K:h0.t.Sized h0.n){bp nb L:Nat}{b:Gra}(j:Good b)(G:aR h0 nb (ptrTo bp) b){pt:Value}{l:List Int}{R Q:Nat->List Int}(T:TabQ h0 pt L l R Q)(hl:l.length<=16){mb cb fp fb z:Nat}{m:List Int}{q H:Nat->Nat}(k:fm h0 mb (ptrTo cb) b.nodes m q)(M:gb m+1=((z:Nat):Int))(hM:z<=100)(bm:ik h0 fp fb z b.arcs.length ((b.arcs.length+7)/8) H)(oB:OkB b q ((b.arcs.length+7)/8) z 0 H)
 {way a:Int} (n:way=4\/way=5) (N:way=5->L=b.nodes/\1<=l.length/\fJ b.nodes l/\R=toR b l/\Q=frR b l) {s w:Nat} (o:s<b.nodes) (O:w<b.nodes) (ai:h0.t.Sized h0.n):
 Ret zM 22 [ptrTo bp,pt,.agg ⟨[ptrTo cb,ptrTo fp]⟩,.agg ⟨[.int .i64 way,.int .i64 (s:Nat),.int .i64 (w:Nat),.int .i64 a]⟩] h0 fun r A=>Gr h0 A/\ ∃c d vA B vE P,r=.tuple #[ansV c d vA B,vE]/\(∀x,(ar vA x\/ar B x\/ar vE x)->h0.n<=x)/\au A 4 iX vE P/\P.length<=3000/\
  ((FAR<=dOf (seen b.arcs Arc.s Arc.t) s w/\c=20/\d=0/\vA=.slice none 0 0/\B=.slice none 0 0)\/
   (dOf (seen b.arcs Arc.s Arc.t) s w<FAR/\c=0/\d=(dOf (seen b.arcs Arc.s Arc.t) s w:Nat)/\(∃u,au A 1 bJ vA u/\u.length<=1000/\kE b.arcs s u w (dOf (seen b.arcs Arc.s Arc.t) s w))/\ ∃act:List Nat,au A 1 bJ B act/\act.length<=16/\
     (way=5->pb b.arcs (fun v x=>v<b.nodes/\(x:Int)+fT b.nodes l.length (toR b l) (frR b l) v w (act.map fun(x:Nat)=>(x:Int))<=(dOf (seen b.arcs Arc.s Arc.t) s w:Nat)) P))):=by
 have ak:=fj
 have eT:=fun {s:Nat} (o:s<b.nodes) (v:Nat)=>exTo K j G o v
 have S:=fun {s:Nat} (o:s<b.nodes) (v:Nat)=>exFrom K j G o v
 have lm:=k.len
 have af:=j.many
 have C: ∀v,v<b.nodes->q v<z:=fun v hv=>by
  have I:=k.val v hv
  have D:v<m.length:=by omega
  have e:m.getD v 0=m[v]:=by rw [zO,Xa D,Option.getD_some]
  have:=lmax_ge (Xj D)
  omega
 have U: ∀i,i<b.arcs.length->(alF ((Xe b.arcs.length).map (fK H ((b.arcs.length+7)/8) (q w))) i=true↔i∈cZ b q (q w)):=fun i y=>by
  rw [alF_of y,oB _ i y]
  simp only [Xu,Xd,and_false,or_false,C w O,true_and]
 refine(AA (f:=s) (t:=w) (a:=a) (way:=way) K j G T hl cI cI (Ae j G k M bm) (fun _=>⟨k,rfl,bm,hM,rfl,C⟩)).mono ?_
 rintro r A ⟨g,c,d,vA,B,vE,rfl,V,E⟩
 have F:iZ true way l.length L b.nodes=true:=by
  unfold iZ
  rcases n with rfl|rfl
  . rfl
  . obtain⟨W,e2,_⟩:=N rfl
    simp [W];omega
 have W:decide (way=4\/way=5)=true:=decide_eq_true n
 have e2:decide (0<=(s:Int)/\(s:Int)<(b.nodes:Int))=true:=decide_eq_true (by omega)
 have e3:decide (0<=(w:Int)/\(w:Int)<(b.nodes:Int))=true:=decide_eq_true (by omega)
 rw [F,W,e2,e3]at E
 have hz:qi true true true true=0:=rfl
 rw [hz]at E
 have X:=S o w
 rw [kY]at X⊢
 rcases E with⟨h,rfl,rfl,rfl,rfl,rfl⟩|⟨_,s',Y,fd,es,ew,Z,_,_,he,sE,E⟩
 . have e:s=w:=by rcases h with h|h;exact absurd rfl h;omega
   subst e
   have ad:=X.self
   rw [ad]
   exact⟨g,_,_,_,_,_,[],rfl,V,.inl ⟨rfl,rfl⟩,Xh _,.inr ⟨by omega,rfl,rfl,⟨[],.inl ⟨rfl,rfl⟩,Xh _,.nil⟩,[],.inl ⟨rfl,rfl⟩,Xh _,fun _ i y=>by cases y⟩⟩
 . obtain rfl:s'=s:=by omega
   obtain rfl:Y=w:=by omega
   obtain⟨f1,f2,f3,f4⟩:=sfP_feas (l:=l) (act:=(lO b.nodes l.length R Q s' Y a).map fun(x:Nat)=>(x:Int)) (R:=R) (Q:=Q) (way:=way) eT S (fun h=>(N h).2.2) j O (alF ((Xe b.arcs.length).map (fK H ((b.arcs.length+7)/8) (q Y))))
   obtain⟨q1,q2⟩:=AD eT S j o O U f1 f2 he
   have e:=q1.uniq X
   have p:=found_len j o (.inr ⟨Z,he⟩)
   rw [<-e]
   rcases E with⟨J,rfl,rfl,rfl,rfl⟩|⟨J,rfl,rfl,sA,sB⟩
   . exact⟨g,_,_,_,_,_,fd.ev,rfl,V,sE,p.2,.inl ⟨J,rfl,rfl,rfl,rfl⟩⟩
   . obtain⟨p1,p2⟩:=q2 J
     refine⟨g,_,_,_,_,_,fd.ev,rfl,V,sE,p.2,.inr ⟨J,rfl,rfl,⟨_,sA,by omega,p1⟩,_,sB,?_,fun h=>?_⟩⟩
     . split
       . unfold lO;rw [Xm];omega
       . exact Xh _
     . have hb:=Ao j o f1 f3 he p2
       rw [if_pos h]
       intro i y
       rcases hb i y with I|⟨I,h2,h3,h4⟩
       . exact .inl I
       . refine .inr ⟨I,h2,h3,?_⟩
         rw [f4 _ h3 h]at h4
         obtain⟨_,rfl,rfl⟩:=(N h).2.2
         exact h4
def Tryz.Fo:=aj t1<|aj t2<|aj t3<|aj t4<|aj t5<|aj t6<|aj Z3<|aj Z4<|aj t9<|aj t10<|aj t11<|aj t12<|aj Z14<|aj Z20<|aj t15<|aj t16<|aj t17<|aj t24<|aj t29<|aj Z0<|aj t63<|aj Z2<|aj t229<|aj t274<|aj t326<|aj Z17<|aj t340<|aj t342<|aj t344<|aj t345<|aj t346<|aj t347<|Z16
theorem zF {h0 : Hp} (ok:h0.t.Sized h0.n) {d:Gra} (G:Good d) {T U V:Value} (Z:c8 h0 T U V d) {s:Nat} (hs:s<d.nodes) (hD: ∀v,v<d.nodes->IsD d.arcs s v (dOf d.arcs s v)):
 Ret zM 27 [jh d T U V,.int .i64 s,.slice none 0 0] h0 fun r h'=>Gr h0 h'/\au h' 1 (encI .i64) r (ke d.arcs d.nodes s)/\ ∀c,ar r c->h0.n<=c:=by
 have S:=Si ok
 have n1:=G.n1
 have n2:=G.n2
 have al:=G.many
 have fx:=Z.X.fl
 have fy:=Z.Y.fl
 have fa:=Z.A.fl
 have hF:=fj
 refine ab (n:=83) (rs:=[.tmp 6]) rfl Tryz.e27 rfl rfl rfl (lbt rfl) ?_
 simp only [BS,Nat.reduceLT,jh]
 refine ae (bg (by intro x e;cases e)) S ?_;clear S;intro h E S aL;simp only [ah]at S
 simp only [BS]
 replace S:=S.nilG (k:=1)
 refine aN (fun(i:Nat) g h=>i<=d.nodes/\ ∃(vR:Value),St NoM h0 h [(E,.row [.int .i64 d.nodes,T,U,V] 1)] [(vR,1,List.replicate i (.int .i64 72057594037927936))]/\g 1=.int .i64 s/\g 2=.slice none 0 0/\g 3=ptrTo E/\g 7=vR/\g 8=.int .i64 i) (fun i=>d.nodes-i) ?_ 0 _ _ ?_
 . clear S
   intro i ih g h ⟨hi,vR,S,r1,u,t,r7,r8⟩
   by_cases hlt:i<d.nodes
   . have w:ao .i64 ((i:Int)+1)=((i+1:Nat):Int):=by rw [wrap64]<;>omega
     simp only [BS,LB,Nat.reduceLT,Nat.reduceEqDiff,Fo,t,r7,r8,aB,hlt,S.ld (b:=E) (o:=0) m0 rfl]
     refine ae (bH (by exact Tryz.t24.1) (by exact X3) (by decide) (by rfl)) S ?_;clear S;intro h bt S a0;simp only [LC,aT,bz,ah,Nat.reduceMul,Nat.reduceAdd,Xw,Xx,Xs,XC]at S
     simp only [BS,LB,Nat.reduceLT,Nat.reduceEqDiff]
     have W:aG h 1 (.slice (some ⟨bt,0,none⟩) 1 1)=some (1,[.int .i64 72057594037927936]):=by simp only [aG];rw [S.lds (b:=bt) (o:=0) (n:=1*1) m0 (lbt rfl)];rfl
     replace S:=S.drop1
     refine dz (S.grow (j:=0) (m:=1) (new:=[.int .i64 72057594037927936]) rfl Tryz.t24.1 X3 (by decide) Tryz.t24.2.2.2.2.2 W rfl (by decide) rfl (by simp;omega)) ?_
     clear S W;rintro h ad S
     simp only [LC,<-List.replicate_succ']at S
     simp only [BS,LB,Nat.reduceLT,Nat.reduceEqDiff,r8,w]
     exact ih (i+1) _ _ (by omega) ⟨by omega,ad,S,by simp [aa,r1],by simp [aa,u],by simp [aa,t,ag],by simp [aa],by simp [aa]⟩
   . have af:i=d.nodes:=by omega
     subst af
     have c1: ¬((s:Int)<0):=by omega
     have c2: ¬((d.nodes:Int)<=(s:Int)):=by omega
     obtain⟨H,ev,S2⟩:=S.toL (by intro e;have:=congrArg X2 e;simp at this;omega)
     clear S
     have S:=S2
     clear S2
     rw [List.length_replicate]at ev
     subst ev
     have e0:List.replicate d.nodes (Value.int .i64 72057594037927936)=kH d.nodes fun _=>FAR:=by
      unfold kH
      rw [List.map_const',XL];rfl
     rw [e0]at S
     have A:gY (.int .i64 (s:Int)) d.nodes=some s:=jQ hs
     simp only [BS,LB,Nat.reduceLT,Nat.reduceEqDiff,Fo,r1,t,r7,r8,aB,hlt,A,S.ld (b:=E) (o:=0) m1 rfl]
     refine az (ay S (i:=0) rfl Tryz.t2.2.2.1 aU (by rw [we];omega) ono) ?_
     clear S;rintro h ⟨S,_⟩
     have e1:((0:Int))=((0:Nat):Int):=rfl
     simp only [LC]at S
     rw [e1,vz]at S
     simp only [BS]
     have L0:Ls d.arcs s d.nodes (bT (fun _=>FAR) s 0):=by
      refine⟨fun v=>?_,fun v=>?_,by simp [bT]⟩
      . unfold bT;split
        . omega
        . exact XK _
      . unfold bT;split
        . rename_i e;subst e;exact .inr .nil
        . exact .inl rfl
     refine aN (fun(a:(Nat->Nat)×Bool) g h=>Ls d.arcs s d.nodes a.1/\St NoM h0 h [(H,.row (kH d.nodes a.1) 1),(E,.row [.int .i64 d.nodes,T,U,V] 1)] []/\(a.2=false->Rlx d.arcs d.arcs.length a.1)/\g 2=.slice none 0 0/\g 3=ptrTo E/\g 7=.slice (some ⟨H,0,some 1⟩) d.nodes d.nodes/\g 9=.bool a.2) (fun a=>2*sumTo a.1 d.nodes+a.2.toNat) ?_ (bT (fun _=>FAR) s 0,true) _ _ ?_
     . clear S L0 e0 r1 u t r7 r8 hi ih
       rintro⟨l,X⟩ ih g h ⟨F,S,hr,u,t,r7,J⟩
       cases X with
       | false=>
         simp only [BS,LB,ac,Nat.reduceLT,Nat.reduceEqDiff,r7,J]
         have Y:=S.row (b:=H) m0
         have ec:kH d.nodes l=ints (ke d.arcs d.nodes s):=by
          unfold kH ke
          rw [xK,List.map_map]
          refine List.map_congr_left fun v hv=>?_
          have hv:=List.mem_range.1 hv
          have:=F.isD (rlx_all (hr rfl)) (hD v hv)
          have this:l v=dOf d.arcs s v:=this
          show Value.int .i64 ((l v:Nat):Int)=_
          rw [this];rfl
         rw [ec]at Y
         refine⟨S.gr,.inr ⟨H,0,some 1,d.nodes,by rw [lP],by rw [lP];omega,?_⟩,fun c K=>?_⟩
         . rw [Y.load (by rw [bU];omega),Xr,Xs,<-bU (ke d.arcs d.nodes s),XH];rfl
         . obtain rfl:H=c:=K
           exact(S.own _ m0).1.elim (fun h=>h) (fun h=>h.elim)
       | true=>
         simp only [BS,LB,Nat.reduceLT,J]
         refine aN (fun(k:Nat) g h=>k<=d.arcs.length/\ ∃(p:Nat->Nat) (L:Bool),Ls d.arcs s d.nodes p/\St NoM h0 h [(H,.row (kH d.nodes p) 1),(E,.row [.int .i64 d.nodes,T,U,V] 1)] []/\((L=false/\p=l/\Rlx d.arcs k l)\/(L=true/\sumTo p d.nodes<sumTo l d.nodes))/\g 2=.slice none 0 0/\g 3=ptrTo E/\g 7=.slice (some ⟨H,0,some 1⟩) d.nodes d.nodes/\g 9=.bool L/\g 10=.int .i64 k) (fun k=>d.arcs.length-k) ?_ 0 _ _ ?_
         . clear S u t r7 J F
           intro k M g h ⟨hk,p,L,F,S,K,u,t,r7,J,r10⟩
           have wk:ao .i64 ((k:Int)+1)=((k+1:Nat):Int):=by rw [wrap64]<;>omega
           have N:=Z.A.gr S.gr
           by_cases B:k<d.arcs.length
           . obtain⟨c3,o3,x3,y3⟩:=N.ix (kd:=.i64) hZ B
             have am:=Xj B
             obtain⟨a1,a2,a3⟩:=G.arcs _ am
             have O:d.arcs.getD k default=d.arcs[k]:=by simp [zO,B]
             generalize d.arcs[k]=a at am a1 a2 a3 O y3
             have d1:=F.le a.s
             have d2:=F.le a.t
             simp only [BS,LB,Nat.reduceLT,Nat.reduceEqDiff,Fo,t,r10,N.lenq,aB,B,x3,y3,S.ld (b:=E) (o:=3) m1 rfl]
             refine ae ax S ?_;clear S;intro h f S ai
             simp only [BS,LB,Nat.reduceLT,Nat.reduceEqDiff,cu]
             refine az (S.store (i:=0) rfl ?_ ?_ rfl rfl ?_ ono) ?_
             . exact(by exact Tryz.t87.2.1)
             . exact(by intro x e;cases e)
             . exact lbt rfl
             clear S;rintro h ⟨S,mo⟩;clear mo;simp only [LC,ah,lay,Xf,Xg,Nat.reduceAdd]at S
             have A:gY (.int .i64 (a.s:Int)) d.nodes=some a.s:=jQ a1
             have P:gY (.int .i64 (a.t:Int)) d.nodes=some a.t:=jQ a2
             have C:=S.ld (b:=H) (o:=a.s) m1 (wW a1)
             have Q:=S.ld (b:=H) (o:=a.t) m1 (wW a2)
             have D:ao .i64 ((p a.s:Int)+(a.w:Int))=((p a.s+a.w:Nat):Int):=by rw [wrap64]<;>omega
             simp only [BS]
             refine av (aC rfl) (q:=0) (ps:=[]) (by kernel_rfl) ?_
             by_cases e1:p a.s<FAR
             . have I:(p a.s:Int)<72057594037927936:=by omega
               by_cases e2:p a.s+a.w<p a.t
               . have R:((p a.s+a.w:Nat):Int)<(p a.t:Int):=by omega
                 simp only [BS,LB,cls,Nat.reduceLT,Nat.reduceEqDiff,Nat.reduceAdd,Nat.reducePow,Nat.reduceDiv,Nat.reduceMod,Nat.reduceLeDiff,Xl,Fo,u,r7,A,P,C,Q,D,I,R,S.ld (b:=f) (o:=0) m0 rfl,S.ld (b:=f) (o:=1) m0 rfl,S.ld (b:=f) (o:=2) m0 rfl]
                 refine av (aC rfl) (q:=0) (ps:=[]) (by kernel_rfl) ?_
                 simp only [BS,LB,cls,Nat.reduceLT,Nat.reduceEqDiff,Nat.reduceAdd,Nat.reducePow,Nat.reduceDiv,Nat.reduceMod,Nat.reduceLeDiff,Fo,r7,A,P,C,D,S.ld (b:=f) (o:=0) m0 rfl,S.ld (b:=f) (o:=1) m0 rfl,S.ld (b:=f) (o:=2) m0 rfl]
                 refine dB (ay S (i:=1) rfl Tryz.t2.2.2.1 aU (by rw [we];omega) ono) ?_
                 clear S C Q;rintro h ⟨S,_⟩
                 simp only [LC,vz]at S
                 simp only [BS,LB,Nat.reduceLT,Nat.reduceEqDiff,Nat.reduceAdd,r10,wk]
                 have a4:=sum_upd (l:=p) (v:=a.t) (x:=p a.s+a.w) a2
                 refine M (k+1) _ _ (by omega) ⟨by omega,_,true,F.step am e1 e2,S.drop1,.inr ⟨rfl,?_⟩,by simp [aa,u],by simp [aa,t,ag],by simp [aa,r7],by simp [aa],by simp [aa]⟩
                 rcases K with⟨_,rfl,_⟩|⟨_,h⟩<;>omega
               . have R: ¬((p a.s+a.w:Nat):Int)<(p a.t:Int):=by omega
                 simp only [BS,LB,cls,Nat.reduceLT,Nat.reduceEqDiff,Nat.reduceAdd,Nat.reducePow,Nat.reduceDiv,Nat.reduceMod,Nat.reduceLeDiff,Xl,Fo,u,r7,r10,A,P,C,Q,D,I,R,wk,S.ld (b:=f) (o:=0) m0 rfl,S.ld (b:=f) (o:=1) m0 rfl,S.ld (b:=f) (o:=2) m0 rfl]
                 refine M (k+1) _ _ (by omega) ⟨by omega,_,L,F,S.drop1,K.imp (fun⟨x,y,z⟩=>⟨x,y,fun j hj=>?_⟩) id,by simp [aa,u],by simp [aa,t,ag],by simp [aa,r7],by simp [aa,J],by simp [aa]⟩
                 by_cases ej:j=k
                 . subst ej;subst y;rw [O];intro _;omega
                 . exact z j (by omega)
             . have I: ¬(p a.s:Int)<72057594037927936:=by omega
               simp only [BS,LB,cls,Nat.reduceLT,Nat.reduceEqDiff,Nat.reduceAdd,Nat.reducePow,Nat.reduceDiv,Nat.reduceMod,Nat.reduceLeDiff,Xl,Fo,u,r7,r10,A,C,I,wk,S.ld (b:=f) (o:=0) m0 rfl,S.ld (b:=f) (o:=1) m0 rfl,S.ld (b:=f) (o:=2) m0 rfl]
               refine M (k+1) _ _ (by omega) ⟨by omega,_,L,F,S.drop1,K.imp (fun⟨x,y,z⟩=>⟨x,y,fun j hj=>?_⟩) id,by simp [aa,u],by simp [aa,t,ag],by simp [aa,r7],by simp [aa,J],by simp [aa]⟩
               by_cases ej:j=k
               . subst ej;subst y;rw [O];intro h;exact absurd h e1
               . exact z j (by omega)
           . simp only [BS,LB,ac,Nat.reduceLT,Nat.reduceEqDiff,Fo,t,r7,r10,N.lenq,aB,B,S.ld (b:=E) (o:=3) m1 rfl]
             have ak:k=d.arcs.length:=by omega
             subst ak
             refine ih (p,L) _ _ ?_ ⟨F,S,fun h=>?_,by simp [aa,u],by simp [aa,t,ag],by simp [aa,r7],by simp [aa,J]⟩
             . rcases K with⟨rfl,rfl,_⟩|⟨rfl,h⟩
               . simp
               . simp;omega
             . rcases K with⟨_,rfl,h⟩|⟨h2,_⟩
               . exact h
               . exact absurd (h2.symm.trans h) (by decide)
         . exact⟨Xh _,l,false,F,S,.inl ⟨rfl,rfl,fun j hj=>by omega⟩,by simp [aa,u],by simp [aa,t,ag],by simp [aa,r7],by simp [aa],by simp [aa]⟩
     . exact⟨L0,S,fun h=>(by cases h),by simp [aa,u],by simp [aa,t,ag],by simp [aa,r7],by simp [aa]⟩
 . exact⟨Xh _,_,S,by simp [aa,aP,bM],by simp [aa,aP,bM],by simp [aa,ag],by simp [aa],by simp [aa]⟩
def Tryz.Fp:=aj t1<|aj t2<|aj t3<|aj t4<|aj t5<|aj t6<|aj Z3<|aj Z4<|aj t22<|aj t23<|aj t24<|aj Z8<|aj t29<|aj Z0<|aj t32<|aj t33<|aj t45<|aj t47<|aj r47<|aj t48<|aj t51<|aj t63<|aj t65<|aj r65<|aj t66<|aj t67<|aj Z11<|aj t71<|aj r71<|aj Z12<|aj Z2<|aj t114<|aj Z5<|aj t149<|aj Z1<|aj Z6<|Z10
theorem SlW.grE{h a:Hp}{kd:IntKind}{v:Value}{xs:List Int}(s:SlW h kd v xs)(g:Gr h a):SlW a kd v xs:=s.imp (fun h=>h) (fun⟨b,o,c,d,e,f⟩=>⟨b,o,c,d,e,g.load f⟩)
theorem sY{h0:Hp}(ok:h0.t.Sized h0.n){vB vO vM vF:Value}{f t:Nat}{xa:Int}{alt:Bool}{B O ms:List Int}(hB:SlW h0 .u8 vB B)(hO:SlW h0 .u8 vO O)(cO: ∀x∈O,0<=x/\x<=255)(hM:SlW h0 .u8 vM ms)(Z: ∀x∈ms,0<=x/\x<=255)(fF:Fl vF)(hf:f<=255)(ht:t<=255):
 aK zM 9 [.agg ⟨[vB,vO,vM,.int .u8 (f:Nat),.int .u8 (t:Nat),.int .i8 xa,.bool alt,vF]⟩] h0 (.bool true):=by
 have S:=Si ok
 have fB:=hB.sl.fl
 have fO:=hO.sl.fl
 have fM:=hM.sl.fl
 have a7:=fj
 refine ab (n:=74) (rs:=[.tmp 2]) rfl Tryz.e9 rfl rfl rfl (lbt rfl) ?_
 simp only [BS,Nat.reduceLT]
 refine ae (bg (by intro x e;cases e)) S ?_;clear S;intro h b1 S a4;simp only [ah]at S
 simp only [BS,LB,Nat.reduceLT,Nat.reduceEqDiff,Fp,Xr,Xq,Xu,S.lds (b:=b1) (o:=0) (n:=8) m0 (lbt rfl)]
 refine step_ret (vh S.ok (hB.grE S.gr) (hO.grE S.gr) cO (hM.grE S.gr) Z fF hf ht) ?_
 rintro r h ⟨g,u,vx,vy,va,bp,nb,bt,nt,l,ba,m,cf,cb,mb,fp,fb,Mc,Bt,rfl,k,W,hn,hT,hl,ad,bb,af,ai,ak,A,bm,oB⟩
 replace S:=S.call g
 have fx:=W.X.fl
 have fy:=W.Y.fl
 have fa:=W.A.fl
 have n1:=k.n1
 have n2:=k.n2
 have g0:=S.gr
 have I:=S.ok
 rename Hp=>hA
 clear S
 have S:=Si I
 have C:f%u.nodes<u.nodes:=XA _ (by omega)
 have X:t%u.nodes<u.nodes:=XA _ (by omega)
 generalize f%u.nodes=s at C
 generalize t%u.nodes=w at X
 generalize ao .i64 xa=a'
 obtain⟨y,J⟩: ∃y:Int,(if alt=true then 5 else 4)=y:=⟨_,rfl⟩
 have K:y=4\/y=5:=by rw [<-J];split;exact .inr rfl;exact .inl rfl
 rw [J]
 simp only [BS,LB,Nat.reduceLT,Nat.reduceEqDiff,Fp]
 refine ae ax S ?_;clear S;intro h b3 S a5
 simp only [BS,LB,Nat.reduceLT,Nat.reduceEqDiff]
 refine az (S.store (i:=0) rfl Tryz.t71.2.1 (by intro x e;cases e) rfl (by simp only [ah,Xp,Xt,fx.2.1,fy.2.1,fa.2.1,af.2.1,Xb];rfl) (lbt rfl) ono) ?_
 clear S;rintro h ⟨S,mo⟩;clear mo
 simp only [LC,ah,lay,Xf,Xg,Nat.reduceAdd]at S
 have j:=S.row (b:=b3) m0
 have z:=j.load1 (o:=4) rfl
 have al:=j.load1 (o:=5) rfl
 have L:=j.load (o:=7) (n:=2) (lbt rfl)
 have p:=j.load (o:=9) (n:=4) (lbt rfl)
 simp only [Xg,Xf]at L p
 simp only [BS,LB,Nat.reduceLT,Nat.reduceEqDiff,Fp,z,al,L,p]
 have eF:=fun {s:Nat} (C:s<u.nodes) (v:Nat)=>exFrom I k hn C v
 refine step_ret (qu (a:=a') S.ok k (hn.gr S.gr) (.inl ⟨_,hT.gr S.gr,fun i _=>uP,fun i _=>uF⟩) (by omega) (ai.gr S.gr) ak A (bm.gr S.gr) oB K (fun _=>⟨rfl,ad,hl,rfl,rfl⟩) C X S.ok) ?_
 rintro r h ⟨g2,c,d,vA,aL,vE,ev,rfl,nV,sE,bc,Y⟩
 have q3:=j.lt S.ok
 have M:=g0.trans (S.gr.trans g2)
 have E:=S.gr.trans g2
 replace j:=j.gr g2
 have a0:Fl vA/\Fl aL/\Fl vE:=by
  rcases Y with⟨_,_,_,rfl,rfl⟩|⟨_,_,_,⟨_,sA,_⟩,_,sB,_⟩
  . exact⟨a9,a9,sE.fl⟩
  . exact⟨sA.fl,sB.fl,sE.fl⟩
 obtain⟨fA,N,fE⟩:=a0
 have a1:=E.ok
 clear S
 have S:=Si a1
 rename Hp=>hB2
 simp only [BS,LB,Nat.reduceLT,Nat.reduceEqDiff,Fp,ansV]
 refine ae ax S ?_;clear S;intro h b5 S a6
 simp only [BS,LB,Nat.reduceLT,Nat.reduceEqDiff]
 refine az (S.store (i:=0) rfl Tryz.t47.2.1 (by intro x e;cases e) rfl (by simp only [ah,Xp,Xt,fA.2.1,N.2.1,Xb];rfl) (lbt rfl) ono) ?_
 clear S;rintro h ⟨S,mo⟩;clear mo
 simp only [LC,ah,lay,Xf,Xg,Nat.reduceAdd]at S
 replace j:=j.gr S.gr
 have k3:=j.lt S.ok
 have P:=j.load (o:=0) (n:=4) (lbt rfl)
 have Q:=j.load1 (o:=10) rfl
 have R:=j.load1 (o:=11) rfl
 simp only [Xg,Xf]at P
 have ls:=zF S.ok k (W.gr (E.trans S.gr)) (s:=s) C (fun v _=>by have:=eF C v;rwa [kY]at this)
 unfold jh at ls
 simp only [BS,LB,Nat.reduceLT,Nat.reduceEqDiff]
 refine av (aC rfl) (q:=0) (ps:=[(5,8)]) (by kernel_rfl) ?_
 simp only [BS,LB,cls,Nat.reduceLT,Nat.reduceEqDiff,Nat.reduceAdd,Nat.reducePow,Nat.reduceDiv,Nat.reduceMod,Nat.reduceLeDiff,Fp,P,Q]
 refine dp ls ?_
 rintro vL h ⟨T,sL,nL⟩
 have e1:=aA T k3
 replace S:=S.call T
 obtain⟨cL,oL,xL,U⟩:=sL.ix (kd:=.i64) (bG .i64) (i:=w) (by rw [lP];exact X)
 have eD:(ke u.arcs u.nodes s)[w]'(by rw [lP];exact X)=(dOf u.arcs s w:Nat):=by simp [ke]
 rw [eD]at U
 replace U:h.load cL oL 1=some [.int .i64 ((dOf u.arcs s w:Nat):Int)]:=U
 rw [kY]at Y
 generalize dOf u.arcs s w=D at Y U
 simp only [BS,LB,cls,Nat.reduceLT,Nat.reduceEqDiff,Nat.reduceAdd,Nat.reducePow,Nat.reduceDiv,Nat.reduceMod,Nat.reduceLeDiff,Fp,T.load R,xL,U]
 refine⟨by simp only [a8,bC,aW,bI,aY,ne_eq,not_false_eq_true,bK,bZ,bj,aZ,bS,c9,aJ,Nat.reduceLT,Nat.reduceEqDiff,reduceIte,Xb,ag,aQ e1,aM e1],?_⟩
 have R5:=S.row (b:=b5) m0
 have F:=R5.load (o:=0) (n:=4) (XK 4)
 have V:=R5.load1 (o:=0) rfl
 have a2:=R5.load1 (o:=1) rfl
 have p:=(j.gr T).load (o:=9) (n:=4) (lbt rfl)
 have z:=(j.gr T).load1 (o:=4) rfl
 simp only [Xg,Xf]at F p
 have gD:=E.trans S.gr
 rcases Y with⟨hd,rfl,rfl,rfl,rfl⟩|⟨hd,rfl,rfl,⟨bd,sA,hi,hp⟩,_⟩
 . have G:(72057594037927936:Int)<=(D:Int):=by omega
   simp only [BS,LB,Nat.reduceLT,Nat.reduceEqDiff,Fp,G,F,V,p,z]
   refine an (yF S.ok aU aU aU aU (c:=20) (by decide)) ?_
   intro h9 g9;replace S:=S.call g9
   simp only [BS,LB,Nat.reduceLT,Nat.reduceEqDiff]
   refine an (pY S.ok) ?_
   intro a3 H;replace S:=S.call H
   simp only [BS,LB,ac,Nat.reduceLT,Nat.reduceEqDiff]
   exact M.trans S.gr
 . have G: ¬(72057594037927936:Int)<=(D:Int):=by omega
   simp only [BS,LB,Nat.reduceLT,Nat.reduceEqDiff,Fp,G,F,V,a2,p,z]
   refine an (yJ S.ok k (hn.gr gD) aU aU C (sA.gr S.gr) N hi hp) ?_
   intro h9 g9;replace S:=S.call g9
   simp only [BS,LB,Nat.reduceLT,Nat.reduceEqDiff]
   refine an (pY S.ok) ?_
   intro a3 H;replace S:=S.call H
   simp only [BS,LB,ac,Nat.reduceLT,Nat.reduceEqDiff]
   exact M.trans S.gr
def Tryz.F8:=aj t1<|aj t2<|aj t3<|aj t4<|aj t5<|aj t6<|aj Z3<|aj Z4<|aj t9<|aj t10<|aj t11<|aj t12<|aj Z14<|aj Z20<|aj t15<|aj t16<|aj t17<|aj t18<|aj r18<|aj Z22<|aj t20<|aj t22<|aj t23<|aj t24<|aj Z8<|aj t29<|aj Z0<|aj t32<|aj t33<|aj t45<|aj t47<|aj r47<|aj t48<|aj t51<|aj t63<|aj t65<|aj r65<|aj t66<|aj t67<|aj Z11<|aj t71<|aj r71<|aj Z12<|aj t114<|aj Z5<|aj t149<|aj Z1<|aj Z6<|aj t229<|aj Z10<|aj t274<|aj t326<|aj Z17<|aj t340<|aj t342<|aj t344<|aj t345<|aj t346<|aj t347<|Z16
theorem SlW.grF{h a:Hp}{kd:IntKind}{v:Value}{xs:List Int}(s:SlW h kd v xs)(g:Gr h a):SlW a kd v xs:=s.imp (fun h=>h) (fun⟨b,o,c,d,e,f⟩=>⟨b,o,c,d,e,g.load f⟩)
theorem tw{h0:Hp}(ok:h0.t.Sized h0.n){vB vO vM vF:Value}{f t:Nat}{xa:Int}{alt:Bool}{B O ms:List Int}(Y:SlW h0 .u8 vB B)(hO:SlW h0 .u8 vO O)(cO: ∀x∈O,0<=x/\x<=255)(hM:SlW h0 .u8 vM ms)(aL: ∀x∈ms,0<=x/\x<=255)(fF:Fl vF)(hf:f<=255)(ht:t<=255):
 aK zM 8 [.agg ⟨[vB,vO,vM,.int .u8 (f:Nat),.int .u8 (t:Nat),.int .i8 xa,.bool alt,vF]⟩] h0 (.bool true):=by
 have S:=Si ok
 have fB:=Y.sl.fl
 have fO:=hO.sl.fl
 have fM:=hM.sl.fl
 have bL:=fj
 refine ab (n:=96) (rs:=[.tmp 2]) rfl Tryz.e8 rfl rfl rfl (lbt rfl) ?_
 simp only [BS,Nat.reduceLT]
 refine ae (bg (by intro x e;cases e)) S ?_;clear S;intro h b1 S bu;simp only [ah]at S
 simp only [BS,LB]
 refine an (pY S.ok) ?_
 intro h g;replace S:=S.call g;clear g
 simp only [BS,LB,Nat.reduceLT,Nat.reduceEqDiff,F8]
 refine az (ay S (i:=0) rfl Tryz.t4.2.2.1 mq (Xc (lbt rfl)) ono) ?_
 clear S;rintro h ⟨S,p⟩;clear p
 simp only [LC]at S
 simp only [BS,LB,Nat.reduceLT,Nat.reduceEqDiff,F8,Xr,Xq,Xu,S.lds (b:=b1) (o:=0) (n:=8) m0 (lbt rfl)]
 refine step_ret (vh (alt:=true) S.ok (Y.grF S.gr) (hO.grF S.gr) cO (hM.grF S.gr) aL fF hf ht) ?_
 rintro r h ⟨g,d,vx,vy,va,bp,nb,bt,nt,l,bP,m,cf,cb,mb,fp,fb,Mc,Bt,rfl,A,ga,V,hT,hl,a0,bX,a1,Z,ad,u,bm,oB⟩
 replace S:=S.call g
 have fx:=ga.X.fl
 have fy:=ga.Y.fl
 have fa:=ga.A.fl
 have n1:=A.n1
 have n2:=A.n2
 have g0:=S.gr
 have a2:=S.ok
 rename Hp=>hA
 clear S
 have S:=Si a2
 have hs:f%d.nodes<d.nodes:=XA _ (by omega)
 have hw:t%d.nodes<d.nodes:=XA _ (by omega)
 generalize f%d.nodes=s at hs
 generalize t%d.nodes=w at hw
 generalize ao .i64 xa=a'
 rw [if_pos rfl]
 simp only [BS,LB,Nat.reduceLT,Nat.reduceEqDiff,F8]
 refine ae ax S ?_;clear S;intro h b3 S bv
 simp only [BS,LB,Nat.reduceLT,Nat.reduceEqDiff]
 refine az (S.store (i:=0) rfl Tryz.t71.2.1 (by intro x e;cases e) rfl (by simp only [ah,Xp,Xt,fx.2.1,fy.2.1,fa.2.1,a1.2.1,Xb];rfl) (lbt rfl) ono) ?_
 clear S;rintro h ⟨S,p⟩;clear p
 simp only [LC,ah,lay,Xf,Xg,Nat.reduceAdd]at S
 simp only [BS,LB,Nat.reduceLT,Nat.reduceEqDiff,F8,Xr,Xq,Xu,List.drop_succ_cons,S.lds (b:=b3) (o:=9) (n:=4) m0 (lbt rfl)]
 refine ae ax S ?_;clear S;intro h b5 S bx
 simp only [BS,LB,Nat.reduceLT,Nat.reduceEqDiff]
 refine az (S.store (i:=0) rfl Tryz.t28.2.1 (by intro x e;cases e) rfl rfl (lbt rfl) ono) ?_
 clear S;rintro h ⟨S,p⟩;clear p
 simp only [LC,ah,lay,Xf,Xg,Nat.reduceAdd]at S
 simp only [BS,LB,Nat.reduceLT,Nat.reduceEqDiff,F8]
 refine az (ay S (i:=0) rfl Tryz.t3.2.2.1 aU (Xc (lbt rfl)) ono) ?_
 clear S;rintro h ⟨S,p⟩;clear p
 simp only [LC]at S
 have j:=S.row (b:=b3) m1
 have R5:=S.row (b:=b5) m0
 have gB:=S.gr
 have a3:=S.ok
 clear S
 have S:=Si a3
 have y:=j.load1 (o:=4) rfl
 have C:=j.load1 (o:=5) rfl
 have k:=j.load (o:=7) (n:=2) (lbt rfl)
 have F:=j.load (o:=9) (n:=4) (lbt rfl)
 simp only [Xg,Xf]at k F
 simp only [BS,LB,Nat.reduceLT,Nat.reduceEqDiff,F8,y,C,k,F]
 refine step_ret (qu (a:=a') S.ok A (V.gr gB) (.inl ⟨_,hT.gr gB,fun i _=>uP,fun i _=>uF⟩) (by omega) (Z.gr gB) ad u (bm.gr gB) oB (.inr rfl) (fun _=>⟨rfl,a0,hl,rfl,rfl⟩) hs hw S.ok) ?_
 rintro r h ⟨g2,c1,d1,vA,af,vE,ev,rfl,nV,D,bY,G⟩
 have H:Fl vA/\Fl af/\Fl vE:=by
  rcases G with⟨_,_,_,rfl,rfl⟩|⟨_,_,_,⟨_,sA,_⟩,_,E,_⟩
  . exact⟨a9,a9,D.fl⟩
  . exact⟨sA.fl,E.fl,D.fl⟩
 obtain⟨fA,a4,fE⟩:=H
 have gC:=gB.trans g2
 replace j:=j.gr g2
 replace R5:=R5.gr g2
 have a5:=gC.ok
 clear S y C k F
 have S:=Si a5
 rename Hp=>hC
 simp only [BS,LB,Nat.reduceLT,Nat.reduceEqDiff,F8,ansV]
 refine ae ax S ?_;clear S;intro h b6 S bB
 simp only [BS,LB,Nat.reduceLT,Nat.reduceEqDiff]
 refine az (S.store (i:=0) rfl Tryz.t47.2.1 (by intro x e;cases e) rfl (by simp only [ah,Xp,Xt,fA.2.1,a4.2.1,Xb];rfl) (lbt rfl) ono) ?_
 clear S;rintro h ⟨S,p⟩;clear p
 simp only [LC,ah,lay,Xf,Xg,Nat.reduceAdd]at S
 have W:=S.row (b:=b6) m0
 have gD:=gC.trans S.gr
 replace D:=D.gr S.gr
 have z:(FAR<=dOf (seen d.arcs Arc.s Arc.t) s w/\c1=20/\d1=0)\/(dOf (seen d.arcs Arc.s Arc.t) s w<FAR/\c1=0/\d1=(dOf (seen d.arcs Arc.s Arc.t) s w:Nat)/\ ∃act:List Nat,au h 1 bJ af act/\act.length<=16/\pb d.arcs (fun v x=>v<d.nodes/\(x:Int)+fT d.nodes l.length (toR d l) (frR d l) v w (act.map fun(x:Nat)=>(x:Int))<=(dOf (seen d.arcs Arc.s Arc.t) s w:Nat)) ev):=
  G.imp (fun⟨I,x2,x3,_⟩=>⟨I,x2,x3⟩) (fun⟨I,x2,x3,_,act,E,la,hb⟩=>⟨I,x2,x3,act,E.gr S.gr,la,hb rfl⟩)
 replace j:=j.gr S.gr
 replace R5:=R5.gr S.gr
 have a6:=S.ok
 clear S G
 have S:=Si a6
 rename Hp=>hD
 have y:=j.load1 (o:=4) rfl
 have k:=j.load (o:=7) (n:=2) (lbt rfl)
 have J:=R5.load (o:=0) (n:=4) (lbt rfl)
 simp only [Xg,Xf]at k J
 simp only [BS,LB,Nat.reduceLT,Nat.reduceEqDiff,F8,y,k,J]
 refine step_ret (qu (a:=a') (l:=[]) (R:=fun _=>[]) (Q:=fun _=>[]) S.ok A (V.gr gD) (.inr ⟨rfl,rfl,rfl⟩) (Xh _) (Z.gr gD) ad u (bm.gr gD) oB (.inl rfl) (fun h=>absurd h (by decide)) hs hw S.ok) ?_
 rintro r h ⟨g3,c2,d2,a7,ba,bc,b0,rfl,b2,ai,_,ak⟩
 have H:Fl a7/\Fl ba/\Fl bc:=by
  rcases ak with⟨_,_,_,rfl,rfl⟩|⟨_,_,_,⟨_,sA,_⟩,_,E,_⟩
  . exact⟨a9,a9,ai.fl⟩
  . exact⟨sA.fl,E.fl,ai.fl⟩
 obtain⟨bd,be,b4⟩:=H
 have bf:c1=c2/\d1=d2:=by
  rcases z with⟨I,rfl,rfl⟩|⟨I,rfl,rfl,_⟩<;>rcases ak with⟨y1,rfl,rfl,_⟩|⟨y1,rfl,rfl,_⟩
  . exact⟨rfl,rfl⟩
  . omega
  . omega
  . exact⟨rfl,rfl⟩
 obtain⟨rfl,rfl⟩:=bf
 replace S:=S.call g3
 simp only [BS,LB,Nat.reduceLT,Nat.reduceEqDiff,F8,ansV]
 refine ae ax S ?_;clear S;intro h b8 S bE
 simp only [BS,LB,Nat.reduceLT,Nat.reduceEqDiff]
 refine az (S.store (i:=0) rfl Tryz.t47.2.1 (by intro x e;cases e) rfl (by simp only [ah,Xp,Xt,bd.2.1,be.2.1,Xb];rfl) (lbt rfl) ono) ?_
 clear S;rintro h ⟨S,p⟩;clear p
 simp only [LC,ah,lay,Xf,Xg,Nat.reduceAdd]at S
 have R8:=S.row (b:=b8) m0
 replace j:=j.gr S.gr
 replace W:=W.gr S.gr
 replace D:=D.gr S.gr
 have K:=W.load1 (o:=0) rfl
 have L:=W.load1 (o:=1) rfl
 have M:=R8.load1 (o:=0) rfl
 have P:=R8.load1 (o:=1) rfl
 have gE:=gD.trans S.gr
 rcases z with⟨I,rfl,rfl⟩|⟨I,rfl,rfl,act,E,la,hb⟩
 . simp only [BS,LB,ac,Nat.reduceLT,Nat.reduceEqDiff,F8,K,L,M,P,(by decide: ¬(20:Int)=0)]
   exact g0.trans gE
 . simp only [BS,LB,Nat.reduceLT,Nat.reduceEqDiff,F8,K,L,M,P]
   replace E:=E.gr S.gr
   have T:=S.ok
   clear S
   rename Hp=>hE
   have bh:=W.load1 (o:=3) rfl
   have C:=j.load1 (o:=5) rfl
   have bi:=j.load1 (o:=11) rfl
   replace hT:=hT.gr gE
   clear y k J K M P
   have z3:=j.lt T
   have z6:=W.lt T
   refine aN (fun(i:Nat) ρ h'=>i<=ev.length/\Gr hE h'/\ρ 3=ptrTo b3/\ρ 6=ptrTo b6/\ρ 7=vE/\ρ 10=.int .i64 i) (fun i=>ev.length-i) ?_ 0 _ _ ?_
   . intro i ih ρ h ⟨hi,g,r3,r6,r7,r10⟩
     have wi:ao .i64 ((i:Int)+1)=((i+1:Nat):Int):=by rw [wrap64]<;>omega
     by_cases hlt:i<ev.length
     . obtain⟨c,o,x0,X⟩:=(D.gr g).ix (kd:=.i64) qx hlt
       have V:=hb i hlt
       obtain⟨e,ee⟩: ∃e,ev[i]=e:=⟨_,rfl⟩
       rw [ee]at X V
       obtain⟨kd,id,lb⟩:=e
       simp only []at V
       replace X:h.load c o 4=some [.int .i64 kd,.int .i64 0,.int .i64 id,.int .i64 lb]:=X
       have U:h.load c o 1=some [.int .i64 kd]:=kW X (i:=0) (m:=1) (by omega)
       simp only [BS,LB,Nat.reduceLT,Nat.reduceEqDiff,F8,r7,r10,D.lenq,aB,hlt]
       rcases V with⟨hk,_,_⟩|⟨hk,_,hv,bk⟩
       . have k1: ¬(kd:Int)=0:=by omega
         refine av (aC rfl) (q:=0) (ps:=[(24,27),(11,24)]) (by kernel_rfl) ?_
         simp only [BS,LB,cls,Nat.reduceLT,Nat.reduceEqDiff,Nat.reduceAdd,Nat.reducePow,Nat.reduceDiv,Nat.reduceMod,Nat.reduceLeDiff,F8,r7,r10,x0,U,k1]
         refine⟨by simp only [a8,bC,aW,bI,aY,ne_eq,not_false_eq_true,bK,bZ,bj,aZ,bS,c9,aJ,Nat.reduceLT,Nat.reduceEqDiff,reduceIte,Xb,r3,r6,r7,r10,ag,oO,vw],?_⟩
         simp only [wi]
         exact ih (i+1) _ _ (by omega) ⟨by omega,g,by simp [aa,r3,ag],by simp [aa,r6,ag],by simp [aa,r7],by simp [aa]⟩
       . have k1:(kd:Int)=0:=by omega
         have y3:h.load c (o+3) 1=some [.int .i64 lb]:=kW X (i:=3) (m:=1) (by omega)
         have y2:h.load c (o+2) 1=some [.int .i64 id]:=kW X (i:=2) (m:=1) (by omega)
         have bl:=g.load L
         have bo:=g.load bh
         have bq:=g.load C
         have br:=g.load bi
         have zc:=bD g.ok U
         have w3:=Xn z3 g.n
         have w6:=Xn z6 g.n
         have bn:=iC (N:=d.nodes) (n:=l.length) (R:=toR d l) (Q:=frR d l) (v:=id) (w:=w) (act:=act.map fun(x:Nat)=>(x:Int))
         obtain⟨bb,al⟩: ∃b,fT d.nodes l.length (toR d l) (frR d l) (id:Int) (w:Int) (act.map fun(x:Nat)=>(x:Int))=b:=⟨_,rfl⟩
         have Y:=yr g.ok (hT.gr g) (fun i _=>uP) (fun i _=>uF) (by omega) (sl_nat (E.gr g)) (by rw [Xv];omega) (v:=id) (w:=w)
         rw [al]at bk Y bn
         have ws:ao .i64 ((lb:Int)+bb)=(lb:Int)+bb:=by rw [wrap64]<;>omega
         have cg: ¬((dOf (seen d.arcs Arc.s Arc.t) s w:Nat):Int)<(lb:Int)+bb:=by omega
         refine av (aC rfl) (q:=0) (ps:=[(24,27),(11,24)]) (by kernel_rfl) ?_
         simp only [BS,LB,cls,Nat.reduceLT,Nat.reduceEqDiff,Nat.reduceAdd,Nat.reducePow,Nat.reduceDiv,Nat.reduceMod,Nat.reduceLeDiff,F8,r3,r6,r7,r10,x0,U,y3,y2,k1,bo,bq,br]
         refine cw Y ?_
         intro h1 g1
         have v3:=aA g1 w3
         have v6:=aA g1 w6
         have vc:=aA g1 zc
         have bs:=g1.load bl
         simp only [BS,LB,cls,Nat.reduceLT,Nat.reduceEqDiff,Nat.reduceAdd,Nat.reducePow,Nat.reduceDiv,Nat.reduceMod,Nat.reduceLeDiff,F8,r6,r10,bs,ws,cg]
         refine⟨by simp only [a8,bC,aW,bI,aY,ne_eq,not_false_eq_true,bK,bZ,bj,aZ,bS,c9,aJ,Nat.reduceLT,Nat.reduceEqDiff,reduceIte,Xb,r3,r6,r7,r10,ag,aQ v3,aQ v6,aQ vc,aM v6,aM v3,aM vc],?_⟩
         simp only [wi]
         exact ih (i+1) _ _ (by omega) ⟨by omega,g.trans g1,by simp [aa,r3,ag],by simp [aa,r6,ag],by simp [aa,r7],by simp [aa]⟩
     . simp only [BS,LB,ac,Nat.reduceLT,Nat.reduceEqDiff,F8,r7,r10,D.lenq,aB,hlt]
       exact g0.trans (gE.trans g)
   . exact⟨Xh _,Gr.refl T,by simp [aa,ag],by simp [aa,ag],by simp [aa],by simp [aa]⟩
end Go.Ab
end
section
namespace Go.Ab
open Go.ChangeShapes Go.WideShapes Go.RowKit
theorem rowAt_le{P:Program}{b:TypeId->Bool}{d:Nat}{e:TypeId}{a off n:Nat}(h:rowAt P b d e a off n=true):off<=a*P.cellsOf e:=by
 cases d with
 |zero=>cases h
 | succ d=>
   unfold rowAt at h
   simp only []at h
   split at h
   . cases h
   . rename_i i
     have c:0<P.cellsOf e:=by omega
     have f:=Nat.div_add_mod off (P.cellsOf e)
     simp only [Bool.or_eq_true,Bool.and_eq_true,beq_iff_eq,decide_eq_true_eq]at h
     rcases h with⟨⟨g,j⟩,_⟩|⟨g,_⟩
     . have:P.cellsOf e*(off/P.cellsOf e)<=P.cellsOf e*a:=Nat.mul_le_mul_left _ (by omega)
       rw [Nat.mul_comm a];omega
     . have:P.cellsOf e*(off/P.cellsOf e+1)<=P.cellsOf e*a:=Nat.mul_le_mul_left _ (by omega)
       have hlt:=XA off c
       rw [Nat.mul_add,Xs]at this
       rw [Nat.mul_comm a];omega
theorem liesAt_le{P:Program}{d:Nat}: ∀{e:TypeId} {a off:Nat} {u:TypeId} {n:Nat},liesAt P d e a off u n=true->off<=a*P.cellsOf e:=by
 induction d with
 |zero=>intro e a off u n h;cases h
 | succ d b=>
   intro e a off u n h
   unfold liesAt at h
   rw [Bool.or_eq_true]at h
   rcases h with h|h
   . exact rowAt_le h
   . split at h
     . exact b h
     . cases h
theorem has_W{P:Program}{W:World}{r:_root_.Go.Reach}{base:Nat}{a:Addr}{e:TypeId}{n:Nat}(h:W.has P r base a e n):a.spot=none/\a.block<W.heap.size/\ ∃l,(hpW W).load (a.block+16) a.off 0=some l:=by
 obtain⟨_,f,i,c,b,k⟩:=h
 have hle:=liesAt_le k
 have d:a.off<=c:=XZ hle (Nat.div_mul_le_self _ _)
 unfold World.shape? at b
 split at b
 next m el q g=>
  cases b
  have hlt:=(Array.getElem?_eq_some_iff.1 g).1
  have p:Row (hpW W) (a.block+16) (m.toList.map (ij W.heap.size)) 0:=⟨_,_,by rw [qF,g];rfl,Tr.sized_ofList _,fun j=>Tr.get_ofList _ j⟩
  exact⟨f,hlt,_,p.load (o:=a.off) (n:=0) (by simpa using d)⟩
 . cases b
section
variable{H:Type}{enc:TypeId×Value->H}{P:Program}
theorem oa{W:World}{base n:Nat}{s e:TypeId}{k:IntKind}{c:Value}{C:Nat->Bool}{D:Bool}{x:DataW H×List MemPlace}(v:P.underlying s=some (.slice e))(E:P.underlying e=some (.int k))(F:P.cellsOf e=1)
 (b:Cell.okWide P W .any base s c) (h:DataW.trod enc P W 0 C D n s [c]=some x): ∃d:List Int,SlW (hpW W) k (ij W.heap.size c) d/\(∀z∈d,(Lit.int k z).wf=true)/\d.length<=9223372036854775807:=by
 rcases Go.ChangeShapes.open_ints v E F h with⟨w,_⟩|⟨a,g,o,d,w,J,A,K,p,_,j,y⟩
 . cases w
   exact⟨[],.inl ⟨rfl,rfl⟩,fun z p=>(by cases p),by simp⟩
 . cases w
   unfold Cell.okWide at b
   rw [v]at b
   simp only [Cell.ok,v]at b
   obtain⟨B,q,r⟩:=b
   obtain⟨t,hlt,G⟩:=has_W r
   have m:g<=d.length:=by rw [p];split<;>omega
   refine⟨d.take g,.inr ⟨a.block+16,a.off,o,?_,?_,?_⟩,fun z p=>y z (List.mem_of_mem_take p),by
    have:(o:Int)<=9223372036854775807:=q
    rw [Xm];omega⟩
   . rw [Xm,XS m]
     simp only [ij,if_pos A,if_pos (And.intro t hlt)]
   . rw [Xm,XS m];exact A
   . rw [Xm,XS m,Xs]
     rw [load_join (f:=fun i=>.int k (d.getD i 0)) G (fun i u=>load_W t (j i (by omega)))]
     congr 1
     have I: ∀l:List Int,l.flatMap (encI k)=l.map fun x=>.int k x:=fun l=>by
      rw [XV,XX,XV];rfl
     rw [I]
     refine List.ext_getElem? fun i=>?_
     rw [Xo,Xo,List.getElem?_take]
     by_cases u:i<g
     . rw [if_pos u,XY u,Xa (show i<d.length by omega)]
       simp [zO,show i<d.length by omega]
     . rw [if_neg u,List.getElem?_eq_none (by simpa using u)];rfl
theorem open_slV{W:World}{base:Nat}{s e:TypeId}{k:IntKind}{v:Value}{j:Nat->Bool}{m:Bool}{d:DataW H}{p:List MemPlace}(c:P.underlying s=some (.slice e))(n:P.underlying e=some (.int k))(o:P.cellsOf e=1)
 (a:Value.okWide P W .any base s v) (h:DataW.Trod enc P W 0 j m s v d p): ∃f:List Int,SlW (hpW W) k (absA W.heap.size v) f/\(∀z∈f,(Lit.int k z).wf=true)/\f.length<=9223372036854775807:=by
 unfold Value.okWide at a
 rw [c]at a
 obtain⟨i,h⟩:=h
 have b: ∀l:Array Value,v≠ .agg l:=by
  rintro l rfl
  simp only [Cell.okWide,c,Cell.ok]at a
 have g:v.cells.toList=[v]:=by cases v<;>first|rfl|exact absurd rfl (b _)
 rw [g]at h
 have q:absA W.heap.size v=ij W.heap.size v:=by cases v<;>first|rfl|exact absurd rfl (b _)
 rw [q]
 exact oa c n o a h
theorem open_sl2{W:World}{base:Nat}{t s e:TypeId}{k:IntKind}{j m:Field}{v:Value}{C:Nat->Bool}{D:Bool}{d:DataW H}{p:List MemPlace}(r:P.underlying t=some (.struct #[j,m]))(E:j.offset=0)(o1:m.offset=1)(F:j.type=s)(t1:m.type=s)
 (u:P.underlying s=some (.slice e)) (w:P.underlying e=some (.int k)) (x:P.cellsOf e=1) (f:P.cellsOf s=1) (o:P.cellsOf t=2) (q:P.cellTypes P.depth t=some [s,s])
 (a:Value.okWide P W .any base t v) (h:DataW.Trod enc P W 0 C D t v d p):
 ∃(c0 g:Value) (xs ys:List Int),v=.agg #[c0,g]/\SlW (hpW W) k (ij W.heap.size c0) xs/\SlW (hpW W) k (ij W.heap.size g) ys/\(∀z∈xs,(Lit.int k z).wf=true)/\ ∀z∈ys,(Lit.int k z).wf=true:=by
 unfold Value.okWide at a
 rw [r]at a
 obtain⟨G,rfl,c,O,i,_,b⟩:=a
 rw [q]at i
 cases i
 rw [o]at c
 obtain⟨l⟩:=G
 simp only [List.size_toArray]at c
 obtain⟨c0,g,rfl⟩:=len2 c
 obtain⟨y,h⟩:=h
 obtain⟨Q,R,n,_,_,A,B⟩:=Go.ChangeShapes.trod_struct2 r h
 rw [E,F,f]at A
 rw [o1,t1,f]at B
 obtain⟨S,I,J⟩:=b 0 c0 rfl
 obtain⟨T,i,K⟩:=b 1 g rfl
 cases I
 cases i
 obtain⟨xs,L,M,_⟩:=oa u w x J A
 obtain⟨ys,N,wy,_⟩:=oa u w x K B
 exact⟨c0,g,xs,ys,rfl,L,N,M,wy⟩
end
end Go.Ab

end

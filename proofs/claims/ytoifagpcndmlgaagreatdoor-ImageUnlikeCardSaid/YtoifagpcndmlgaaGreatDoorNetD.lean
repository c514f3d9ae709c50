/- Nets, cells, flags: what the functions do (part 4). -/
import Derived.Test.YtoifagpcndmlgaaGreatDoorNetC
open Go.Ab.Tryz
open Go.Ab.Tryz renaming abEnv->zB,e3E->XB,e76E->XO,e5E->XX,e22->XY
open List renaming range->zM,take_succ_eq_append_getElem->zO,length_append->Xa,flatMap_cons->Xc,flatMap_nil->Xd,getElem_mem->Xe,getD_eq_getElem?_getD->Xf,flatMap_append->Xh,getElem?_eq_getElem->Xj,append_assoc->Xn,take_of_length_le->Xq,take_length->Xr,mem_singleton->Xs,getElem?_map->Xt,length_take->Xu,take->Xv,drop->Xw,not_mem_nil->Xy,length_map->XA,append_nil->XD,all_cons->XE,mem_cons->XF,getElem?_append_right->XG,drop_eq_getElem_cons->XI,getElem?_append_left->XJ,all_nil->XK,mem_append->XQ,take_append_drop->XR,take_succ_cons->XU,getElem_of_mem->XV,map_congr_left->XW
open Nat renaming lt_of_lt_of_le->Xb,zero_add->Xg,zero_mul->Xi,mul_one->Xk,zero_le->Xl,one_mul->Xm,le_trans->Xp,lt_of_succ_le->Xx,le_refl->Xz,add_sub_cancel_left->XL,le_mul_of_pos_right->XN,zero_ne_one->XP,ble_eq_true_of_le->XS
open Bool renaming and_true->Xo,true_and->XT
open Prod renaming snd->XC
open Function renaming comp_def->XH
open Int renaming eq_ofNat_of_zero_le->XM
set_option maxHeartbeats 4000000
set_option linter.defProp false
set_option linter.unusedVariables false
set_option linter.unusedSimpArgs false
section
namespace Go.Ab
open Go.Proofs
set_option maxRecDepth 10000
def Tryz.Fg:=aj t1<|aj t2<|aj t3<|aj t4<|aj t5<|aj t6<|aj Z1<|aj Z4<|aj t9<|aj t10<|aj t11<|aj t12<|aj Z7<|aj Z13<|aj t15<|aj t16<|aj t17<|aj t22<|aj t51<|aj t58<|aj t69<|aj r69<|aj t76<|aj t90<|aj t120<|aj t161<|aj Z10<|aj t194<|aj t196<|aj t248<|aj Z16<|aj t356<|aj t358<|aj t360<|aj t361<|aj t362<|aj t363<|Z15
def encS(x:Sec):List Value:=[.int .i64 (x.1:Nat),sv x.2]
theorem lu(x:Sec):(encS x).length=2:=rfl
theorem fj{n:Nat}(h:n<18446744073709551616):u64 (n:Int)=n:=by unfold u64;omega
def nV(l:List Sec)(n:Nat):Bs:=jQ++(aJ 1 n++l.flatMap jw)
theorem encode_ok{t:Hp}(P:t.t.Sized t.n){v:Value}{l:List Sec}(D:au t 2 encS v l)(hl:l.length<=16)(Q: ∀x∈l,x.1<256)(hb:(l.flatMap XC).length<=100000):
 Ret zB 21 [v] t fun r R=>Gr t R/\r=.tuple #[sv (ki l),.int .i64 0]:=by
 have S:=Si P
 have T: ¬((16:Int)<(l.length:Int)):=by omega
 refine ac (n:=70) (rs:=[.tmp 2,.tmp 3]) rfl Tryz.e21 rfl rfl rfl (lbt rfl) ?_
 simp only [BS,LB,Nat.reduceLT,Nat.reduceEqDiff,Fg,D.lenq,T]
 refine step_ret (mX S) ?_
 rintro v1 h ⟨E,rfl,S⟩
 simp only [BS,LB]
 refine step_ret (mX S) ?_
 rintro v2 h ⟨I,rfl,S⟩
 simp only [BS,LB,Nat.reduceLT,Nat.reduceEqDiff]
 refine step_ret (yT (l:=[]) (m:=jQ) S (i:=1) (j:=1) rfl rfl (by decide)) ?_
 rintro _ h ⟨q,S⟩
 simp only [LC]at S
 have U:=cV (k:=.u8) rfl (n:=l.length) (by simp only [pw];omega)
 simp only [BS,LB,cE,aN,cM,Nat.reduceLT,Nat.reduceEqDiff,Fg,D.lenq,U]
 refine ag (bj (by exact Tryz.t22.1) (by exact XX) (by decide) (by rfl)) S ?_;clear S;intro h F S d;simp only [LC,aR,bo,ah,Nat.reduceMul,Nat.reduceAdd,Xi,Xg,Xk,Xm]at S
 obtain⟨S,f,p⟩:=S.bsl (kd:=.u8) (xs:=[(l.length:Int)])
 simp only [BS,LB,Nat.reduceLT,Nat.reduceEqDiff]
 refine step_ret (uB S (i:=1) (j:=1) rfl rfl f p (by simp [jQ])) ?_
 rintro _ h ⟨q,S⟩
 simp only [LC,Xc,Xd]at S
 rw [fj (by omega),show jQ++aJ 1 l.length=nV (l.take 0) l.length by simp [nV]]at S
 simp only [BS,LB,Nat.reduceLT,Nat.reduceEqDiff,Fg,D.lenq]
 refine aD (fun(k:Nat) u h=>k<=l.length/\ ∃q z,St NoM t h [(I,.row [z] 1),(E,.row [q] 1)] [(z,1,aT ((l.take k).flatMap XC)),(q,1,aT (nV (l.take k) l.length))]/\u 4=ptrTo E/\u 5=ptrTo I/\u 21=v/\u 22=.int .i64 l.length/\u 23=.int .i64 k) (fun k=>l.length-k) ?_ 0 _ _ ?_
 . clear S f p
   intro k V u h ⟨hkl,q,z,S,r4,r5,r21,r22,r23⟩
   have w:am .i64 ((k:Int)+1)=((k+1:Nat):Int):=by rw [wrap64]<;>omega
   by_cases hlt:k<l.length
   . obtain⟨c,o,A,B⟩:=(D.gr S.gr).ix (kd:=.i64) lu hlt
     have C:=Q l[k] (Xe hlt)
     have J:l.take (k+1)=l.take k++[l[k]]:=zO hlt
     have G:((l.take (k+1)).flatMap XC).length<=(l.flatMap XC).length:=by
      conv=>rhs;rw [<-XR (k+1) l,Xh,Xa]
      omega
     rw [J,Xh,Xa]at G
     simp only [Xc,Xd,XD]at G
     have lh:(nV (l.take k) l.length).length<=300:=by
      have:(l.take k).length<=16:=by rw [Xu];omega
      simp only [nV,Xa,aF,xh,jQ,List.length_cons,List.length_nil];omega
     have K:nV (l.take (k+1)) l.length=nV (l.take k) l.length++jw l[k]:=by
      unfold nV;rw [J,Xh];simp
     have L:(l.take (k+1)).flatMap XC=(l.take k).flatMap XC++l[k].2:=by rw [J,Xh];simp
     generalize l[k]=x at B C K L G
     obtain⟨y,a⟩:=x
     simp only []at C K L G
     have W: ¬((y:Int)<0):=by omega
     have X: ¬((255:Int)<(y:Int)):=by omega
     have Y:=cV (k:=.u8) rfl (n:=y) (by simp only [pw];omega)
     have Z:=cV (k:=.u64) rfl (n:=a.length) (by simp only [pw];omega)
     simp only [BS,LB,Nat.reduceLT,Nat.reduceEqDiff,Fg,r21,r22,r23,aq,hlt,A,B,encS]
     refine ag aw S ?_;clear S;intro h s S N
     simp only [BS,LB,Nat.reduceLT,Nat.reduceEqDiff]
     refine ax (S.store (i:=0) rfl ?_ ?_ rfl rfl ?_ ono) ?_
     . exact(by exact Tryz.t13.2.1)
     . exact(by intro x e;cases e)
     . exact lbt rfl
     clear S;rintro h ⟨S,mo⟩;clear mo;simp only [LC,ah,lay,Xv,Xw,Nat.reduceAdd]at S
     simp only [BS,LB,cE,aN,cM,Nat.reduceLT,Nat.reduceEqDiff,Fg,r4,W,X,Y,S.ld (b:=s) (o:=0) m0 rfl,S.ld (b:=s) (o:=1) m0 rfl]
     refine ag (bj (by exact Tryz.t22.1) (by exact XX) (by decide) (by rfl)) S ?_;clear S;intro h F S d;simp only [LC,aR,bo,ah,Nat.reduceMul,Nat.reduceAdd,Xi,Xg,Xk,Xm]at S
     obtain⟨S,f,p⟩:=S.bsl (kd:=.u8) (xs:=[(y:Int)])
     simp only [BS,LB,Nat.reduceLT,Nat.reduceEqDiff]
     refine step_ret (uB S (i:=2) (j:=1) rfl rfl f p (by simp;omega)) ?_
     clear f p S;rintro _ h ⟨q,S⟩
     simp only [LC,Xc,Xd]at S
     rw [fj (by omega)]at S
     simp only [BS,LB,cE,aN,cM,Nat.reduceLT,Nat.reduceEqDiff,Fg,r4,lenq_sv,Z,S.ld (b:=s) (o:=0) m0 rfl,S.ld (b:=s) (o:=1) m0 rfl]
     refine ag (bj (by exact Tryz.t194.1) (by exact Tryz.e90E) (by decide) (by rfl)) S ?_;clear S;intro h F S d;simp only [LC,aR,bo,ah,Nat.reduceMul,Nat.reduceAdd,Xi,Xg,Xk,Xm]at S
     obtain⟨S,f,p⟩:=S.bsl (kd:=.u64) (xs:=[(a.length:Int)])
     simp only [BS,LB,Nat.reduceLT,Nat.reduceEqDiff]
     refine step_ret (wU64_ok S (i:=2) (j:=1) rfl rfl f p (fun x O=>by simp only [Xs]at O;rw [O,fj (by omega)]) (by simp [aF];omega)) ?_
     clear f p S;rintro _ h ⟨q,S⟩
     simp only [LC,Xc,Xd]at S
     rw [fj (by omega)]at S
     have cl:=ug a
     simp only [BS,LB,Nat.reduceLT,Nat.reduceEqDiff,Fg,r4,S.ld (b:=s) (o:=0) m0 rfl,S.ld (b:=s) (o:=1) m0 rfl]
     refine al (sum_ok S.ok (l:=a) (by omega)) ?_;intro h g;replace S:=S.call g;clear g
     simp only [BS,LB,Nat.reduceLT,Nat.reduceEqDiff]
     refine ag (bj (by exact Tryz.t196.1) (by exact XO) (by decide) (by rfl)) S ?_;clear S;intro h F S d;simp only [LC,aR,bo,ah,Nat.reduceMul,Nat.reduceAdd,Xi,Xg,Xk,Xm]at S
     obtain⟨S,f,p⟩:=S.bsl (kd:=.u32) (xs:=[((crc a:Nat):Int)])
     simp only [BS,LB,Nat.reduceLT,Nat.reduceEqDiff]
     refine step_ret (p9 S (i:=2) (j:=1) rfl rfl f p (by simp [aF];omega)) ?_
     clear f p S;rintro _ h ⟨q,S⟩
     simp only [LC,Xc,Xd]at S
     rw [fj (by omega),Xn,Xn,show aJ 1 y++(aJ 8 a.length++aJ 4 (crc a))=jw (y,a)from rfl,<-K]at S
     simp only [BS,LB,Nat.reduceLT,Nat.reduceEqDiff,Fg,r5,S.ld (b:=s) (o:=0) m0 rfl,S.ld (b:=s) (o:=1) m0 rfl]
     refine step_ret (yT (m:=a) S (i:=1) (j:=0) rfl rfl (by omega)) ?_
     clear S;rintro _ h ⟨z,S⟩
     simp only [LC]at S
     rw [<-L]at S
     simp only [BS,LB,Nat.reduceLT,Nat.reduceEqDiff,r23,w]
     exact V (k+1) _ _ (by omega) ⟨by omega,q,z,S.drop1,by simp [aa,r4],by simp [aa,r5],by simp [aa,r21],by simp [aa,r22],by simp [aa]⟩
   . have:k=l.length:=by omega
     subst this
     rw [Xr]at S
     have hh:nV l l.length=dL l:=rfl
     rw [hh]at S
     have cl:=ug (dL l)
     have M:=pL l
     have H:=(S.gown _ m1).1
     simp only [BS,LB,Nat.reduceLT,Nat.reduceEqDiff,r4,r22,r23,aq,hlt]
     refine al (jJ S.ok (S.ld (b:=E) (o:=0) m1 rfl) H) ?_;intro h g;replace S:=S.call g;clear g
     simp only [BS,LB,Nat.reduceLT,Nat.reduceEqDiff]
     refine al (sum_ok S.ok (l:=dL l) (by omega)) ?_;intro h g;replace S:=S.call g;clear g
     simp only [BS,LB,Nat.reduceLT,Nat.reduceEqDiff]
     refine ag (bj (by exact Tryz.t196.1) (by exact XO) (by decide) (by rfl)) S ?_;clear S;intro h F S d;simp only [LC,aR,bo,ah,Nat.reduceMul,Nat.reduceAdd,Xi,Xg,Xk,Xm]at S
     obtain⟨S,f,p⟩:=S.bsl (kd:=.u32) (xs:=[((crc (dL l):Nat):Int)])
     simp only [BS,LB,Nat.reduceLT,Nat.reduceEqDiff]
     refine step_ret (p9 S (i:=1) (j:=1) rfl rfl f p (by simp;omega)) ?_
     clear f p H S;rintro _ h ⟨q,S⟩
     simp only [LC,Xc,Xd]at S
     rw [fj (by omega)]at S
     have H:=(S.gown _ m1).1
     simp only [BS,LB,Nat.reduceLT,Nat.reduceEqDiff,r4]
     refine al (jJ S.ok (S.ld (b:=E) (o:=0) m1 rfl) H) ?_;intro h g;replace S:=S.call g;clear g
     have g5:=(S.gown _ m0).1
     simp only [BS,LB,Nat.reduceLT,Nat.reduceEqDiff,r5]
     refine al (jJ S.ok (S.ld (b:=I) (o:=0) m0 rfl) g5) ?_;intro h g;replace S:=S.call g;clear g
     simp only [BS,LB,ae,Nat.reduceLT,Nat.reduceEqDiff,b_add_sv (l:=dL l++aJ 4 (crc (dL l))) (m:=l.flatMap XC) (by rw [Xa,aF,M];omega)]
     exact⟨S.gr,by unfold ki;rw [Xn]⟩
 . exact⟨Xl _,_,_,S,by simp [aa,ab],by simp [aa,ab],by simp [aa],by simp [aa],by simp [aa]⟩
def Tryz.F0v:=aj t1<|aj t2<|aj t3<|aj t4<|aj t23<|aj t29<|aj t35<|aj Z0<|aj t42<|aj Z3<|aj t92<|Z2
theorem wD{j:Hp}(F:j.t.Sized j.n){k:Gra}(s:eE k){G A:Nat}(H:bF j G (ptrTo A) k):
 Ret zB 10 [ptrTo A] j fun r q=>Gr j q/\ ∃l m f,r=fW k l m f/\cJ q l m f k/\(∀c,ao l c\/ao m c\/ao f c->j.n<=c)/\WrK q 3 cw f k.arcs/\ ∀c,ao f c-> ¬ao l c/\ ¬ao m c:=by
 have S:=Si F
 obtain⟨b,l,m,f,P,Q,e,r,I,_⟩:=H.ex
 cases e
 have J:=r.load (o:=0) (n:=4) (lbt rfl)
 refine ac (n:=11) (rs:=[.cell 2 37]) rfl Tryz.e10 rfl rfl rfl (lbt rfl) ?_
 simp only [BS,F0v]
 refine ag aw S ?_;clear S;intro h B S C
 simp only [BS,LB,Nat.reduceLT,Nat.reduceEqDiff,F0v,S.old J (fun h=>h),List.drop_zero,XU,List.take_zero]
 have K:=S.fr.n
 have D:Ret zB 33 [fW k l m f] h _:=own_ok S.ok s (I.gr S.gr)
 unfold fW at D
 refine step_ret D ?_
 rintro v h ⟨g,t,u,y,rfl,a,z,w,d⟩
 have L:=a.X.fl
 have M:=a.Y.fl
 have N:=a.A.fl
 have O:=(S.row (b:=B) m0).lt S.ok
 replace S:=S.call g
 simp only [BS,LB,Nat.reduceLT,Nat.reduceEqDiff]
 refine ax (S.store (i:=0) rfl Tryz.t37.2.1 (by intro x e;cases e) rfl (by simp only [ah,XE,XK,L.2.1,M.2.1,N.2.1,Xo];rfl) (lbt rfl) ono) ?_
 clear S;rintro q ⟨S,E⟩
 simp only [LC,ah,lay,Xv,Xw,Nat.reduceAdd]at S
 simp only [BS,ae]
 refine(lO (by decide) (by simp only [bK,ab,Nat.reduceEqDiff,reduceIte];exact fD Tryz.t37.1 Tryz.t37.2.1 (S.lds (b:=B) (o:=0) (n:=4) m0 (lbt rfl)))).2 (jB.2 ?_)
 exact⟨S.gr,t,u,y,rfl,a.mo E (fun c p e=>by have:=z c p;omega),fun c p=>Xp K (z c p),w.mo E (fun c p e=>by have:=z c (.inr (.inr p));omega),d⟩
def Tryz.F0w:=aj t1<|aj t2<|aj t3<|aj t4<|aj t6<|aj Z1<|aj t42<|t152
def IterW(E:Env)(g:FuncId)(post:List Value)(a:Hp)(D W:Nat->Prop)(xs:List (List Value)):Prop:=
 ∀c J Z,(∀v h,¬Z (.pan v) h)->Yld E c J Z xs->(∀i h F d,J i h F->Mo W h d->J i d F)-> ∀h F,ItS a D h F->(∀b,W b->h.get b=a.get b)->(∀b∈F,¬W b)->J 0 h F->fh E g ([]++[.func (.yield c) #[] #[]]++post) none h (YQ J Z xs.length)
theorem iter_w{E:Env}{g:FuncId}{post:List Value}{a:Hp}{D:Nat->Prop}{xs:List (List Value)}(H:qK E g [] post a D xs):IterW E g post a D NoM xs:=fun b J Z c Y _ h F s _ _ d=>H b J Z c Y h F s d
theorem natC_len(l:List Nat):(l.flatMap d7).length=l.length:=by rw [aW fU];omega
theorem gkey_blk{h:Hp}{p:GL}(g:iq h p){c:Nat}(a:ao p.1 c):eK p=some c:=by
 rcases g with⟨e,_⟩|⟨b,n,e,_⟩
 . rw [e]at a;exact a.elim
 . obtain⟨v,k,d⟩:=p
   simp only []at e a
   subst e
   exact congrArg some a
theorem xw{d:Hp}(ok:d.t.Sized d.n){g:FuncId}{post:Array Value}{D W:Nat->Prop}{xs:List Nat}(it:IterW zB g post.toList d D W (xs.map fun(x:Nat)=>[.int .i64 x]))(K: ∀b,W b->b<d.n)(hn:xs.length<100000):
 Ret zB 220 [.slice none 0 0,.func (.func g) #[] post] d fun r p=>Mo W d p/\iq p (r,1,xs.flatMap d7)/\ ∀c,ao r c->d.n<=c:=by
 have S:=Si ok
 refine ac (n:=13) (rs:=[.tmp 4]) rfl Tryz.e220 rfl rfl rfl (lbt rfl) ?_
 simp only [BS,Nat.reduceLT]
 refine ag (cL (by exact bU)) S ?_;clear S;intro h q S v
 simp only [BS,Nat.reduceLT,Nat.reduceEqDiff,if_false]
 replace S:=S.nilG (k:=1)
 have N:=S.gr
 replace S:=S.monoM (M:=W)
 have G:=S.fr
 refine jv S (g:=g) (a:=#[]) (b:=post) (by simp [cy,aa,aB,aY]) rfl rfl ?_
 intro H w u s ad af O
 obtain⟨X,P,s⟩: ∃X:fG,X=_/\St W d H [(u,.loop X),(w,.dfr),(q,.row [.slice none 0 0] 1)] [(.slice none 0 0,1,[])]:=⟨_,rfl,s⟩
 have Q: ∀c,d.n<=c-> ¬W c:=fun c h I=>by have:=K c I;omega
 have hJ:Yld zB u (fun k p F=> ∃(f:Value),St W d p [(u,.loop X),(w,.dfr),(q,.row [f] 1)] [(f,1,(xs.take k).flatMap d7)]/\k<=xs.length/\(∀c∈F,d.n<=c)/\F=keys [(u,.loop X),(w,.dfr),(q,.row [f] 1)] [(f,1,(xs.take k).flatMap d7)]) (fun _ _=>False) (xs.map fun(x:Nat)=>[.int .i64 x]):=by
  refine⟨?_,?_,fun _ _ h=>h.elim,?_⟩
  . rintro i h F ⟨f,S,_,_,rfl⟩;exact⟨S.ok,fun b l=>S.key_lt l⟩
  . rintro i h F p ⟨f,S,a,b,rfl⟩ E;exact⟨f,S.call E,a,b,rfl⟩
  . rintro i x hR F z ⟨f,S,a,b,rfl⟩
    have A:i<xs.length:=by
     have:=(List.getElem?_eq_some_iff.1 z).1
     simpa using this
    rw [Xt,Xj A]at z
    cases z
    have tk:(xs.take (i+1)).flatMap d7=(xs.take i).flatMap d7++[.int .i64 (xs[i]:Nat)]:=by rw [List.take_add_one,Xj A,Xh];rfl
    have tl:(xs.take i).length<=i:=by rw [Xu];omega
    subst P
    refine jx (S.get m0) (by rw [Tryz.e220];rfl) rfl ?_
    have R:=S
    replace S:=S.base
    simp only [BS,LB,Nat.reduceLT,Nat.reduceEqDiff]
    refine iK S (i:=0) rfl rfl rfl rfl rfl ?_
    clear S;intro h S
    simp only [LC]at S
    simp only [BS,LB,Nat.reduceLT,Nat.reduceEqDiff,F0w,S.ld (b:=q) (o:=0) m2 rfl]
    refine ag (bj (by exact Tryz.t42.1) (by exact XB) (by decide) (by rfl)) S ?_;clear S;intro h U S V;simp only [LC,aR,bo,ah,Nat.reduceMul,Nat.reduceAdd,Xi,Xg,Xk,Xm]at S
    simp only [BS,LB,Nat.reduceLT,Nat.reduceEqDiff]
    have B:aI h 1 (.slice (some ⟨U,0,none⟩) 1 1)=some (1,[.int .i64 (xs[i]:Nat)]):=by simp only [aI];rw [S.lds (b:=U) (o:=0) (n:=1*1) m0 (lbt rfl)];rfl
    replace S:=S.drop1
    refine dX (S.grow (j:=0) (m:=1) (new:=[.int .i64 (xs[i]:Nat)]) rfl Tryz.t42.1 XB (by decide) Tryz.t42.2.2.2.2.2 B rfl (by decide) rfl (by rw [natC_len];simp;omega)) ?_
    clear S B;rintro h C S
    simp only [LC]at S
    have fv:Fl C:=(S.gown _ m0).1.fl
    simp only [BS,LB,Nat.reduceLT,Nat.reduceEqDiff]
    refine ax (av S (i:=2) rfl Tryz.t42.2.2.1 fv (Xx (lbt rfl)) ono) ?_
    clear S;rintro h ⟨S,_⟩
    simp only [LC]at S
    simp only [BS]
    refine eZ S (i:=0) rfl ?_
    clear S;intro h S
    simp only [LC]at S
    rw [<-tk]at S
    have J:=R.rebase S
    refine .inl ⟨rfl,_,⟨C,J,by omega,fun c e=>?_,rfl⟩,S.fr,fun c e=>(S.key_own e).symm⟩
    rcases S.key_own e with Y|Y
    . have:=R.fr.n;omega
    . exact b c Y
 have t: ∀c∈keys [(u,Ob.loop X),(w,.dfr),(q,.row [.slice none 0 0] 1)] [(.slice none 0 0,1,[])],d.n<=c:=fun c e=>by
  have n2:=v
  have:=G.n
  simp [keys,eK]at e
  omega
 refine gL (it u _ _ (fun _ _ h=>h) hJ ?_ H _ ?_ ?_ (fun c e=>Q c (t c e)) ⟨_,s,Xl _,t,rfl⟩) fun o rc p y=>kC y ?_
 . rintro i h F p ⟨f,S,a,b,rfl⟩ E
   exact⟨f,S.step E (fun c e=>.inl e) (fun c e I=>Q c (b c e) I),a,b,rfl⟩
 . have E:Mo W d H:=s.fr
   exact⟨s.ok,s.fr.n,fun b l _=>(N.trans O).get b l,fun b l h=>by have:=t b l;omega,fun b l=>s.key_lt l⟩
 . exact fun b l=>(N.trans O).get b (K b l)
 . rintro F ⟨f,T,a,b,rfl⟩
   rw [XA,Xr]at T b
   subst P
   refine⟨_,T.get m0,XP,?_⟩
   replace T:=T.dead
   have S:=T
   show Run _ _ _ _ _ _ _ _
   simp only [BS,LB,Nat.reduceLT,Nat.reduceEqDiff,F0w,S.ld (b:=q) (o:=0) m1 rfl]
   refine gP (ku [w] _ (L:=[(q,_)]) T.base fun h3 Z=>⟨rfl,_,rfl,?_⟩)
   refine⟨(T.fr.trans Z.fr (fun c e=>(T.key_own e).symm):Mo W d h3),(Z.gown _ m0).1,fun x z=>?_⟩
   refine b x ?_
   have:eK (f,1,xs.flatMap d7)=some x:=gkey_blk (T.gown _ m0).1 z
   exact jE m0 this
theorem zH{a:Hp}(e:a.t.Sized a.n){g:FuncId}{post:Array Value}{D W:Nat->Prop}{xs:List Nat}(i:IterW zB g post.toList a D W (xs.map fun(x:Nat)=>[.int .i64 x]))(j: ∀b,W b->b<a.n)(k:xs.length<100000):
 Ret zB 193 [.func (.func g) #[] post] a fun r d=>Mo W a d/\iq d (r,1,xs.flatMap d7)/\ ∀c,ao r c->a.n<=c:=by
 have S:=Si e
 refine ac (n:=5) (rs:=[.tmp 2]) rfl Tryz.e193 rfl rfl rfl (lbt rfl) ?_
 simp only [BS,LB,Nat.reduceLT,Nat.reduceEqDiff]
 refine step_ret (xw S.ok i j k) ?_
 rintro r h ⟨f,q⟩
 simp only [BS,LB,ae,Nat.reduceLT,Nat.reduceEqDiff]
 exact⟨f,q⟩
def Tryz.F00:=aj t1<|aj t2<|aj t3<|aj t4<|aj t5<|aj t6<|aj t23<|t349
theorem AH{c:Hp}(r:c.t.Sized c.n){v:Value}{a b:Int}(d:au c 1 (encI .i64) v [a,b]):bC zB 243 [.func (.func 244) #[] #[],v] c (.int .i64 (wy (wy (wy a)+wy b))):=by
 have S:=Si r
 have l:=wy_bd a
 have y:=wy_bd b
 have z:=wy_bd (wy a)
 have s:am .i64 1=1:=rfl
 have t:am .i64 2=2:=rfl
 have u:am .i64 (wy a)=wy a:=by rw [wrap64]<;>omega
 have w:wy (wy a)=wy a:=wy_id l.1 l.2
 have x:am .i64 (wy a+wy b)=wy a+wy b:=by rw [wrap64]<;>omega
 refine ac (n:=22) (rs:=[.tmp 4]) rfl Tryz.e243 rfl rfl rfl (lbt rfl) ?_
 simp only [BS,LB,Nat.reduceLT,Nat.reduceEqDiff,Nat.reduceAdd,Int.cast_ofNat_Int,F00,d.lenq]
 rw [dg]
 obtain⟨m,o,e,f⟩:=d.ix (kd:=.i64) (aM .i64) (i:=0) (by simp)
 replace e:ig (some 1) v (.int .i64 0)=some (.pointer (some ⟨m,o,none⟩)):=e
 replace f:c.load m o 1=some [.int .i64 a]:=f
 simp only [BS,LB,Nat.reduceLT,Nat.reduceEqDiff,Int.reduceLT,F00,e,f]
 refine al (qZ S.ok) ?_;intro h g;replace S:=S.call g;clear g
 simp only [BS,LB,Nat.reduceLT,Nat.reduceEqDiff,u,Int.zero_add]
 refine al (qZ S.ok) ?_;intro h g;replace S:=S.call g;clear g
 simp only [BS,LB,Nat.reduceLT,Nat.reduceEqDiff,s,w,Int.zero_add]
 rw [dg]
 obtain⟨p,q,j,k⟩:=(d.gr S.gr).ix (kd:=.i64) (aM .i64) (i:=1) (by simp)
 replace j:ig (some 1) v (.int .i64 1)=some (.pointer (some ⟨p,q,none⟩)):=j
 replace k:h.load p q 1=some [.int .i64 b]:=k
 simp only [BS,LB,Nat.reduceLT,Nat.reduceEqDiff,Int.reduceLT,F00,j,k]
 refine al (qZ S.ok) ?_;intro h g;replace S:=S.call g;clear g
 simp only [BS,LB,Nat.reduceLT,Nat.reduceEqDiff,x]
 refine al (qZ S.ok) ?_;intro h g;replace S:=S.call g;clear g
 simp only [BS,LB,Nat.reduceLT,Nat.reduceEqDiff,Int.reduceAdd,t]
 rw [dg]
 simp only [BS,LB,ae,Nat.reduceLT,Nat.reduceEqDiff,Int.reduceLT]
 exact S.gr
theorem add_ok{c:Hp}(f:c.t.Sized c.n){a b:Int}:bC zB 237 [.int .i64 a,.int .i64 b] c (.int .i64 (wy (wy (wy a)+wy b))):=by
 have S:=Si f
 refine ac (n:=9) (rs:=[.tmp 4]) rfl Tryz.e237 rfl rfl rfl (lbt rfl) ?_
 simp only [BS,LB,Nat.reduceLT,Nat.reduceEqDiff]
 refine ag (bj (by exact Tryz.t23.1) (by exact Tryz.e2E) (by decide) (by rfl)) S ?_;clear S;intro h d S e;simp only [LC,aR,bo,ah,Nat.reduceMul,Nat.reduceAdd,Xi,Xg,Xk,Xm]at S
 simp only [BS,LB,Nat.reduceLT,Nat.reduceEqDiff]
 refine al (AH S.ok (a:=a) (b:=b) (.inr ⟨d,0,none,2,rfl,Xz _,S.lds (b:=d) (o:=0) (n:=2*1) m0 (lbt rfl)⟩)) ?_;intro h g;replace S:=S.call g;clear g
 simp only [BS,LB,ae,Nat.reduceLT,Nat.reduceEqDiff]
 exact S.gr
def Tryz.F1a:=aj t1<|aj t2<|aj t3<|aj t4<|aj t31<|aj t42<|Z5
def Tryz.F01:=aj t1<|aj t2<|aj t3<|aj t4<|aj t29<|aj t31<|aj Z0<|aj t42<|aj Z3<|aj t92<|aj Z2<|Z5
structure im(h:Hp)(nb:Nat)(p:Value)(N:Nat)(m:List Int)(c:Nat->Nat):Prop where
 at0:gG h nb p m
 len:m.length=N
 val: ∀v,v<N->m.getD v 0=(c v:Int)
theorem im.gr{h a:Hp}{b N:Nat}{p:Value}{m:List Int}{c:Nat->Nat}(x:im h b p N m c)(g:Gr h a):im a b p N m c:=⟨x.at0.gr g,x.len,x.val⟩
theorem im.keep{h a:Hp}{d N:Nat}{p:Value}{m:List Int}{c:Nat->Nat}(e:h.t.Sized h.n)(x:im h d p N m c)(g:ey h a):im a d p N m c:=by
 obtain⟨b,v,rfl,r,s,f,i⟩:=x.at0
 exact⟨⟨b,v,rfl,g.row e r,s.keep e g,f,i⟩,x.len,x.val⟩
theorem xn{a:Hp}(f:a.t.Sized a.n){g N:Nat}{p:Value}{m:List Int}{c:Nat->Nat}(x:im a g p N m c){v:Nat}(h:v<N):bC zB 191 [p,.int .i64 (v:Nat)] a (.int .i64 (c v:Nat)):=by
 have S:=Si f
 obtain⟨b,u,rfl,r,s,_,_⟩:=x.at0
 have j:=r.load1 (o:=0) rfl
 have w:=x.len
 have k: ¬(v:Int)<0:=by omega
 have l: ¬(m.length:Int)<=(v:Int):=by omega
 obtain⟨d,o,q,e⟩:=s.ix (kd:=.i64) (aM .i64) (i:=v) (by omega)
 have t:m[v]'(by omega)=(c v:Int):=by
  rw [<-x.val v h,Xf,Xj (by omega)];rfl
 rw [t]at e
 replace e:a.load d o 1=some [.int .i64 (c v:Nat)]:=e
 refine ac (n:=27) (rs:=[.tmp 4]) rfl Tryz.e191 rfl rfl rfl (lbt rfl) ?_
 simp only [BS,LB,ae,Nat.reduceLT,Nat.reduceEqDiff,F1a,k,j,s.lenq,l,q,e]
 exact S.gr
theorem inside_ok{j:Hp}(B:j.t.Sized j.n){C D r N:Nat}{p:Value}{d:Gra}{m:List Int}{c:Nat->Nat}(l:Good d)(E:bF j C (ptrTo r) d)(x:im j D p d.nodes m c){k a:Nat}(q:a<d.arcs.length):
 bC zB 144 [ptrTo r,p,.int .i64 (k:Nat),.int .i64 (a:Nat)] j (.bool (decide (c (d.arcs.getD a default).s=k/\c (d.arcs.getD a default).t=k))):=by
 have S:=Si B
 have K:Fl p:=by obtain⟨b,_,rfl,_⟩:=x.at0;exact dh
 have s:d.arcs[a]=d.arcs.getD a default:=by simp [Xf,q]
 have F:d.arcs.getD a default∈d.arcs:=by rw [<-s];exact Xe q
 obtain⟨t,u,_⟩:=l.arcs _ F
 refine ac (n:=34) (rs:=[.tmp 8]) rfl Tryz.e144 rfl rfl rfl (lbt rfl) ?_
 simp only [BS,LB,Nat.reduceLT,Nat.reduceEqDiff]
 refine step_ret (py S.ok E q) ?_
 rintro L h ⟨G,rfl⟩
 replace S:=S.call G
 rw [s]
 generalize d.arcs.getD a default=A at t u
 simp only [BS,LB,Nat.reduceLT,Nat.reduceEqDiff,F01,cw]
 refine ag aw S ?_;clear S;intro h v S w
 simp only [BS,LB,Nat.reduceLT,Nat.reduceEqDiff]
 refine ax (S.store (i:=0) rfl ?_ ?_ rfl rfl ?_ ono) ?_
 . exact(by exact Tryz.t46.2.1)
 . exact(by intro x e;cases e)
 . exact lbt rfl
 clear S;rintro h ⟨S,H⟩;clear H;simp only [LC,ah,lay,Xv,Xw,Nat.reduceAdd]at S
 simp only [BS,LB,Nat.reduceLT,Nat.reduceEqDiff,F01,S.ld (b:=v) (o:=0) m0 rfl]
 refine al (xn S.ok (x.gr S.gr) t) ?_
 intro M I;replace S:=S.call I
 by_cases y:c A.s=k
 . have f:(c A.s:Int)=(k:Int):=by omega
   simp only [BS,LB,Nat.reduceLT,Nat.reduceEqDiff,F01,f,S.ld (b:=v) (o:=1) m0 rfl]
   refine al (xn S.ok (x.gr S.gr) u) ?_
   intro O J;replace S:=S.call J
   by_cases z:c A.t=k
   . have g:(c A.t:Int)=(k:Int):=by omega
     simp only [BS,LB,ae,Nat.reduceLT,Nat.reduceEqDiff,g]
     exact⟨by rw [decide_eq_true ⟨y,z⟩],S.gr⟩
   . have g: ¬(c A.t:Int)=(k:Int):=by omega
     simp only [BS,LB,ae,Nat.reduceLT,Nat.reduceEqDiff,g]
     exact⟨by rw [decide_eq_false (fun h=>z h.2)],S.gr⟩
 . have f: ¬(c A.s:Int)=(k:Int):=by omega
   simp only [BS,LB,ae,Nat.reduceLT,Nat.reduceEqDiff,f]
   exact⟨by rw [decide_eq_false (fun h=>y h.1)],S.gr⟩
end Go.Ab
end
section
namespace Go.Ab
open Go.Proofs
set_option maxRecDepth 10000
def Tryz.F0x:=aj t1<|aj t2<|aj t3<|aj t4<|aj t5<|aj t6<|aj Z1<|aj t42<|t168
def Tryz.FP:=aj t1<|aj t2<|aj t3<|aj t4<|aj t29<|aj t31<|aj Z0<|aj t42<|aj Z3<|aj t92<|aj Z2<|Z5
def Tryz.F02:=aj t1<|aj t3<|aj t4<|aj t29<|aj t31<|aj Z0<|aj t42<|aj t92<|aj Z2<|aj Z5<|t168
theorem pairN{x:Option Tch}:js none x=true:=by cases x<;>rfl
theorem ey.grk{hq a h:Hp}(k:ey hq a)(n:hq.n<=a.n)(g:Gr a h):ey hq h:=fun b c=>(g.get b (Xb c n)).trans (k b c)
def HoldP(E:Env)(hq:Hp)(g:FuncId)(post:List Value)(N:Nat)(f:Nat->Bool):Prop:= ∀h,h.t.Sized h.n->ey hq h->hq.n<=h.n-> ∀v,v<N->bC E g ([.int .i64 (v:Nat)]++post) h (.bool (f v))
theorem indexI_ok{hq a:Hp}(b:a.t.Sized a.n)(t:ey hq a)(q:hq.n<=a.n){v:Value}{xs:List Nat}{N:Nat}{g:FuncId}{post:Array Value}{f:Nat->Bool}(m:au a 1 d7 v xs)(E:xs.length<=1000)(u: ∀x∈xs,x<N)(hf:HoldP zB hq g post.toList N f):
 Ret zB 155 [v,.func (.func g) #[] post] a fun r y=>Gr a y/\ ∃z:Int,r=.int .i64 z/\(0<=z↔xs.any f=true):=by
 have S:=Si b
 have F:=m.fl
 refine ac (n:=19) (rs:=[.tmp 4]) rfl Tryz.e155 rfl rfl rfl (lbt rfl) ?_
 simp only [BS,LB,Nat.reduceLT,Nat.reduceEqDiff,F0x,m.lenq]
 refine aD (fun(i:Nat) d h=>i<=xs.length/\Gr a h/\(∀j,(l:j<xs.length)->j<i->f xs[j]=false)/\d 0=v/\d 1=.func (.func g) #[] post/\d 7=.int .i64 (xs.length:Nat)/\d 8=.int .i64 i) (fun i=>xs.length-i) ?_ 0 _ _ ?_
 . clear S
   intro i A d h ⟨hi,g1,hno,r0,r1,r7,r8⟩
   have w:am .i64 ((i:Int)+1)=((i+1:Nat):Int):=by rw [wrap64]<;>omega
   by_cases hlt:i<xs.length
   . obtain⟨c,o,B,p⟩:=(m.gr g1).ix (kd:=.i64) fU hlt
     replace p:h.load c o 1=some [.int .i64 (xs[i]:Nat)]:=p
     simp only [BS,LB,Nat.reduceLT,Nat.reduceEqDiff,F0x,r0,r1,r7,r8,aq,hlt,B,p]
     refine al (hf _ g1.ok (t.grk q g1) (Xp q g1.n) xs[i] (u _ (Xe hlt))) ?_
     intro G s
     cases k:f xs[i]with
     | true=>
       simp only [BS,LB,ae,Nat.reduceLT,Nat.reduceEqDiff]
       refine⟨g1.trans s,_,rfl,⟨fun _=>List.any_eq_true.2 ⟨_,Xe hlt,k⟩,fun _=>by omega⟩⟩
     | false=>
       simp only [BS,LB,Nat.reduceLT,Nat.reduceEqDiff,r8,w]
       refine A (i+1) _ _ (by omega) ⟨by omega,g1.trans s,fun j l C=>?_,by simp [aa,r0],by simp [aa,r1],by simp [aa,r7],by simp [aa]⟩
       by_cases e:j=i
       . subst e;exact k
       . exact hno j l (by omega)
   . simp only [BS,LB,ae,Nat.reduceLT,Nat.reduceEqDiff,r7,r8,aq,hlt]
     refine⟨g1,_,rfl,⟨fun h=>by omega,fun h=>?_⟩⟩
     obtain⟨x,D,k⟩:=List.any_eq_true.1 h
     obtain⟨j,l,e⟩:=XV D
     rw [<-e,hno j l (by omega)]at k
     cases k
 . exact⟨Xl _,Gr.refl b,fun j _ h=>by omega,by simp [aa,cD],by simp [aa,cD],by simp [aa],by simp [aa]⟩
theorem yC{hq a:Hp}(b:a.t.Sized a.n)(k:ey hq a)(l:hq.n<=a.n){v:Value}{xs:List Nat}{N:Nat}{g:FuncId}{post:Array Value}{f:Nat->Bool}(e:au a 1 d7 v xs)(m:xs.length<=1000)(o: ∀x∈xs,x<N)(hf:HoldP zB hq g post.toList N f):
 bC zB 95 [v,.func (.func g) #[] post] a (.bool (xs.any f)):=by
 have S:=Si b
 have p:=e.fl
 refine ac (n:=9) (rs:=[.tmp 4]) rfl Tryz.e95 rfl rfl rfl (lbt rfl) ?_
 simp only [BS,LB,Nat.reduceLT,Nat.reduceEqDiff]
 refine step_ret (indexI_ok b k l e m o hf) ?_
 rintro r h ⟨i,z,rfl,j⟩
 cases c:xs.any f with
 | true=>
   have d:=j.2 c
   simp only [BS,LB,ae,Nat.reduceLT,Nat.reduceEqDiff,d]
   exact i
 | false=>
   have d: ¬0<=z:=fun h=>by rw [j.1 h]at c;cases c
   simp only [BS,LB,ae,Nat.reduceLT,Nat.reduceEqDiff,d]
   exact i
section
variable{hq:Hp}{γ:Gra}{nb mb bp k:Nat}{p:Value}{m:List Int}{c:Nat->Nat}
def beyB(γ:Gra)(c:Nat->Nat)(k a:Nat):Bool:=!decide (c (γ.arcs.getD a default).s=k)
theorem beyond_ok(f:hq.t.Sized hq.n)(u:Good γ)(K:bF hq nb (ptrTo bp) γ)(x:im hq mb p γ.nodes m c){w y z:Nat}(L:hq.load w 0 1=some [ptrTo bp])(B:hq.load y 0 1=some [p])(C:hq.load z 0 1=some [.int .i64 (k:Nat)]):
 HoldP zB hq 192 [ptrTo w,ptrTo y,ptrTo z] γ.arcs.length (beyB γ c k):=by
 intro h M g N a v
 have S:=Si M
 have D:γ.arcs[a]=γ.arcs.getD a default:=by simp [Xf,v]
 have O:γ.arcs.getD a default∈γ.arcs:=by rw [<-D];exact Xe v
 obtain⟨E,P,_⟩:=u.arcs _ O
 refine ac (n:=24) (rs:=[.tmp 5]) rfl Tryz.e192 rfl rfl rfl (lbt rfl) ?_
 simp only [BS,LB,Nat.reduceLT,Nat.reduceEqDiff,FP,g.load f L]
 refine step_ret (py S.ok (K.keep f g) v) ?_
 rintro U V ⟨Q,rfl⟩
 replace S:=S.call Q
 unfold beyB
 rw [D]
 generalize γ.arcs.getD a default=A at E P
 simp only [BS,LB,Nat.reduceLT,Nat.reduceEqDiff,FP,cw]
 refine ag aw S ?_;clear S;intro h F S G
 simp only [BS,LB,Nat.reduceLT,Nat.reduceEqDiff]
 refine ax (S.store (i:=0) rfl ?_ ?_ rfl rfl ?_ ono) ?_
 . exact(by exact Tryz.t46.2.1)
 . exact(by intro x e;cases e)
 . exact lbt rfl
 clear S;rintro h ⟨S,R⟩;clear R;simp only [LC,ah,lay,Xv,Xw,Nat.reduceAdd]at S
 have l:=g.grk N S.gr
 obtain⟨b,W,rfl,r,s,_,_⟩:=(x.keep f l).at0
 have H:=r.load1 (o:=0) rfl
 have X:=x.len
 obtain⟨d,o,I,t⟩:=s.ix (kd:=.i64) (aM .i64) (i:=A.s) (by omega)
 have T:m[A.s]'(by omega)=(c A.s:Int):=by
  rw [<-x.val A.s E,Xf,Xj (by omega)];rfl
 rw [T]at t
 simp only [encI]at t
 simp only [BS,LB,Nat.reduceLT,Nat.reduceEqDiff]
 refine ar (ay rfl) (q:=0) (ps:=[]) (by kernel_rfl) ?_
 by_cases J:c A.s=k
 . have j:(c A.s:Int)=(k:Int):=by omega
   simp only [BS,LB,cls,ae,Nat.reduceLT,Nat.reduceEqDiff,Nat.reduceAdd,Nat.reducePow,Nat.reduceDiv,Nat.reduceMod,Nat.reduceLeDiff,FP,l.load f B,l.load f C,H,I,t,j,S.ld (b:=F) (o:=0) m0 rfl]
   exact⟨by rw [decide_eq_true J];rfl,S.gr⟩
 . have j: ¬(c A.s:Int)=(k:Int):=by omega
   simp only [BS,LB,cls,ae,Nat.reduceLT,Nat.reduceEqDiff,Nat.reduceAdd,Nat.reducePow,Nat.reduceDiv,Nat.reduceMod,Nat.reduceLeDiff,FP,l.load f B,l.load f C,H,I,t,j,S.ld (b:=F) (o:=0) m0 rfl]
   exact⟨by rw [decide_eq_false J];rfl,S.gr⟩
def borB(γ:Gra)(c:Nat->Nat)(k v:Nat):Bool:=decide (c v=k)&&(outs γ.arcs Arc.t γ.arcs.length v).any (beyB γ c k)
theorem Aq(f:hq.t.Sized hq.n)(j:Good γ)(D:bF hq nb (ptrTo bp) γ)(x:im hq mb p γ.nodes m c){y z A E:Nat}(F:hq.load y 0 1=some [p])(G:hq.load z 0 1=some [.int .i64 (k:Nat)])(H:hq.load A 0 1=some [ptrTo bp])(l4:hq.load E 0 1=some [.func (.func 192) #[] #[ptrTo A,ptrTo y,ptrTo z]]):
 HoldP zB hq 195 [ptrTo y,ptrTo z,ptrTo A,ptrTo E] γ.nodes (borB γ c k):=by
 intro h l g I v J
 have S:=Si l
 obtain⟨b,vm,rfl,r,s,_,_⟩:=(x.keep f g).at0
 have K:=r.load1 (o:=0) rfl
 have hl:=x.len
 obtain⟨d,o,L,w⟩:=s.ix (kd:=.i64) (aM .i64) (i:=v) (by omega)
 have ev:m[v]'(by omega)=(c v:Int):=by
  rw [<-x.val v J,Xf,Xj (by omega)];rfl
 rw [ev]at w
 replace w:h.load d o 1=some [.int .i64 (c v:Nat)]:=w
 have B:=g.load f F
 have C:=g.load f G
 have M:=g.load f H
 have N:=g.load f l4
 have O:=ct l B
 have P:=ct l C
 have Q:=ct l M
 have R:=ct l N
 have T:=r.lt l
 have U:=ct l w
 unfold borB
 by_cases V:c v=k
 . have t:(c v:Int)=(k:Int):=by omega
   refine ac (n:=23) (rs:=[.tmp 6]) rfl Tryz.e195 rfl rfl rfl (lbt rfl) ?_
   simp only [BS,LB]
   refine ar (ay rfl) (q:=0) (ps:=[(12,13)]) (by kernel_rfl) ?_
   simp only [BS,LB,cls,Nat.reduceLT,Nat.reduceEqDiff,Nat.reduceAdd,Nat.reducePow,Nat.reduceDiv,Nat.reduceMod,Nat.reduceLeDiff,F02,B,C,M,K,L,w,t]
   refine c6 (xY S.ok (D.keep f g) (by have:=j.many;omega) J) ?_
   rintro vl h2 ⟨e,sl,_⟩
   have W:=aK e O
   have X:=aK e P
   have Y:=aK e Q
   have Z:=aK e R
   have ub:=aK e T
   have ud:=aK e U
   replace S:=S.call e
   simp only [BS,LB,cls,Nat.reduceLT,Nat.reduceEqDiff,Nat.reduceAdd,Nat.reducePow,Nat.reduceDiv,Nat.reduceMod,Nat.reduceLeDiff,F02,e.load N]
   refine fP (yC S.ok (g.grk I e) (Xp I e.n) sl (by have:=j.many;have:=oU γ.arcs Arc.t γ.arcs.length v;omega) (fun a ha=>(qm.1 ha).1) (post:=#[ptrTo A,ptrTo y,ptrTo z]) (beyond_ok f j D x H F G)) ?_
   intro h3 u
   have w1:=aK u (Xb O e.n)
   have w2:=aK u (Xb P e.n)
   have w3:=aK u (Xb Q e.n)
   have w4:=aK u (Xb R e.n)
   have wb:=aK u (Xb T e.n)
   have wd:=aK u (Xb U e.n)
   replace S:=S.call u
   simp only [BS,LB,cls,ae,Nat.reduceLT,Nat.reduceEqDiff,Nat.reduceAdd,Nat.reducePow,Nat.reduceDiv,Nat.reduceMod,Nat.reduceLeDiff]
   refine⟨by simp only [bQ,bW,bE,cd,bM,ne_eq,not_false_eq_true,ce,cB,bO,bN,cy,dr,bK,Nat.reduceLT,Nat.reduceEqDiff,reduceIte,Xo,ab,aB,aY,bJ W,bJ X,bJ Y,bJ Z,bJ ub,bJ ud,aQ W,aQ X,aQ Y,aQ Z,aQ ub,aQ ud,bJ w1,bJ w2,bJ w3,bJ w4,bJ wb,bJ wd,aQ w1,aQ w2,aQ w3,aQ w4,aQ wb,aQ wd],?_⟩
   exact⟨by rw [decide_eq_true V,XT],S.gr⟩
 . have t: ¬(c v:Int)=(k:Int):=by omega
   refine ac (n:=23) (rs:=[.tmp 6]) rfl Tryz.e195 rfl rfl rfl (lbt rfl) ?_
   simp only [BS,LB]
   refine ar (ay rfl) (q:=0) (ps:=[(12,13)]) (by kernel_rfl) ?_
   simp only [BS,LB,cls,ae,Nat.reduceLT,Nat.reduceEqDiff,Nat.reduceAdd,Nat.reducePow,Nat.reduceDiv,Nat.reduceMod,Nat.reduceLeDiff,F02,B,C,K,L,w,t]
   refine⟨by simp only [bQ,bW,bE,cd,bM,ne_eq,not_false_eq_true,ce,cB,bO,bN,cy,dr,bK,Nat.reduceLT,Nat.reduceEqDiff,reduceIte,Xo,ab,aB,aY,xo,pairN],?_⟩
   exact⟨by rw [decide_eq_false V,Bool.false_and],S.gr⟩
end
end Go.Ab

end
section
namespace Go.Ab
open Go.Proofs
set_option maxRecDepth 10000
def Tryz.F0y:=aj t1<|aj t2<|aj t3<|aj t4<|aj t5<|aj t31<|aj t42<|aj Z5<|t168
def Tryz.F03:=aj t1<|aj t2<|aj t3<|aj t4<|aj t29<|aj t31<|aj Z0<|aj t42<|aj t92<|aj Z2<|aj Z5<|aj t152<|t168
def Tryz.F1b:=aj t1<|aj t3<|aj t4<|aj t29<|aj Z0<|aj t92<|Z2
def Tryz.FF:=aj t1<|aj t2<|aj t3<|aj t4<|aj t23<|aj t29<|aj Z0<|aj t42<|aj Z3<|aj t92<|aj Z2<|Z17
def Tryz.F0z:=aj t1<|aj t2<|aj t3<|aj t23<|aj t29<|aj Z0<|aj t42<|aj t92<|aj Z2<|aj t168<|Z17
theorem cnodes_ok{a:Hp}(i:a.t.Sized a.n){p f:Value}(j:Fl p)(k:Fl f):Ret zB 194 [p,f] a fun v g=>Gr a g/\ ∃b c,v=.func (.func 221) #[] #[ptrTo b,ptrTo c]/\a.n<=b/\a.n<=c/\g.load b 0 1=some [p]/\g.load c 0 1=some [f]:=by
 have S:=Si i
 refine ac (n:=6) (rs:=[.tmp 4]) rfl Tryz.e194 rfl rfl rfl (lbt rfl) ?_
 simp only [BS,Nat.reduceLT]
 refine ag (cL (by assumption)) S ?_;clear S;intro h b S d
 simp only [BS,Nat.reduceLT,Nat.reduceEqDiff,if_false]
 refine ag (cL (by assumption)) S ?_;clear S;intro h c S e
 simp only [BS,LB,ae,Nat.reduceLT,Nat.reduceEqDiff]
 exact⟨S.gr,b,c,rfl,d,e,S.ld m1 rfl,S.ld m0 rfl⟩
theorem cnodes_it {hq d:Hp} (u:hq.t.Sized hq.n) (k:d.t.Sized d.n) (E:ey hq d) (y:hq.n<=d.n) {L N:Nat} {p:Value} {m:List Int} {c:Nat->Nat} (x:im hq L p N m c) (V:N<=1000) {l q:Nat} {g:FuncId} {post:Array Value} {f:Nat->Bool} (hf:HoldP zB hq g post.toList N f)
 (M:d.load l 0 1=some [p]) (O:d.load q 0 1=some [.func (.func g) #[] post]):
 qK zB 221 [] [ptrTo l,ptrTo q] d (fun c=>c=l\/c=q\/c<hq.n) (((zM N).filter f).map fun(v:Nat)=>[.int .i64 (v:Nat)]):=by
 intro P J Z Q Y h F s e
 have G:=s.load k M (.inl rfl)
 obtain⟨b,W,rfl,r,H,_,_⟩:=(x.keep u (s.keep E y (fun c z=>.inr (.inr z)))).at0
 have I:=r.load1 (o:=0) rfl
 have X:=x.len
 have A:(m.length:Int)=(N:Int):=by omega
 refine enter (n:=25) (rs:=[]) rfl Tryz.e221 rfl rfl rfl (lbt rfl) ?_
 simp only [BS,LB,Nat.reduceLT,Nat.reduceEqDiff,F0y,G,I,H.lenq,A]
 refine aD (fun(i:Nat) j h=>i<=N/\ ∃F,ItS d (fun c=>c=l\/c=q\/c<hq.n) h F/\J ((zM i).filter f).length h F/\j 0=.func (.yield P) #[] #[]/\j 1=ptrTo l/\j 2=ptrTo q/\j 11=.int .i64 (N:Nat)/\j 12=.int .i64 i) (fun i=>N-i) ?_ 0 _ _ ?_
 . clear G s e F r H I h
   intro i K j h ⟨hi,F,s,e,r0,r1,r2,r11,r12⟩
   have w:am .i64 ((i:Int)+1)=((i+1:Nat):Int):=by rw [wrap64]<;>omega
   by_cases hlt:i<N
   . have R:=s.load k O (.inr (.inl rfl))
     simp only [BS,LB,Nat.reduceLT,Nat.reduceEqDiff,F0y,r2,r11,r12,aq,hlt,R]
     refine al (hf _ s.ok (s.keep E y (fun c z=>.inr (.inr z))) (Xp y s.n) i hlt) ?_
     intro h2 t
     cases B:f i with
     | true=>
       have S:(((zM N).filter f).map fun(v:Nat)=>[Value.int .i64 (v:Nat)])[((zM i).filter f).length]? =some [.int .i64 (i:Nat)]:=by
        rw [Xt,uk B _ hlt];rfl
       have C:((zM (i+1)).filter f).length=((zM i).filter f).length+1:=by rw [ke,if_pos B];simp
       simp only [BS,LB,Nat.reduceLT,Nat.reduceEqDiff,r0]
       refine eU Y (s.gr t) (Y.gr _ _ _ _ e t) (i:=((zM i).filter f).length) S ?_ ?_ ?_
       . intro D T a U _ _
         simp only [BS,LB,Nat.reduceLT,Nat.reduceEqDiff,r12,w]
         exact K (i+1) _ _ (by omega) ⟨by omega,T,U,by rw [C];exact a,by simp [aa,r0],by simp [aa,r1,ab],by simp [aa,r2,ab],by simp [aa,r11],by simp [aa]⟩
       . intro D a _
         simp only [BS,LB,Nat.reduceLT,Nat.reduceEqDiff]
         exact gy rfl ⟨rfl,.inr (.inl ⟨_,rfl,a⟩)⟩
       . intro v D a
         exact absurd a (Q v D)
     | false=>
       have C:(zM (i+1)).filter f=(zM i).filter f:=by rw [ke,if_neg (by rw [B];decide)];simp
       simp only [BS,LB,Nat.reduceLT,Nat.reduceEqDiff,r12,w]
       exact K (i+1) _ _ (by omega) ⟨by omega,F,s.gr t,by rw [C];exact Y.gr _ _ _ _ e t,by simp [aa,r0],by simp [aa,r1,ab],by simp [aa,r2,ab],by simp [aa,r11],by simp [aa]⟩
   . simp only [BS,LB,Nat.reduceLT,r11,r12,aq,hlt]
     have:i=N:=by omega
     subst this
     exact dZ (dV ⟨rfl,_,rfl,rfl,.inl ⟨_,F,rfl,by simpa using e⟩⟩)
 . exact⟨Xl _,F,s,e,by simp [aa,cD],by simp [aa,cD,ab],by simp [aa,cD,ab],by simp [aa],by simp [aa]⟩
theorem border_ok{a:Hp}(A:a.t.Sized a.n){j:Gra}{U V F k:Nat}{p:Value}{m:List Int}{c:Nat->Nat}(l:Good j)(G:bF a U (ptrTo F) j)(x:im a V p j.nodes m c):
 Ret zB 145 [p,ptrTo F,.int .i64 (k:Nat)] a fun r H=>Gr a H/\au H 1 d7 r ((zM j.nodes).filter (borB j c k))/\ ∀c,ao r c->a.n<=c:=by
 have S:=Si A
 have fp:Fl p:=by obtain⟨b,_,rfl,_⟩:=x.at0;exact dh
 obtain⟨bc,W,rfl,r,s,_,_⟩:=x.at0
 have X:=r.load1 (o:=0) rfl
 have Y:=x.len
 have Z:=l.n1
 have n2:=l.n2
 have B:(m.length:Int)=(j.nodes:Int):=by omega
 obtain⟨I,ov,sv,cv,ev⟩: ∃d o s c,W=.slice (some ⟨d,o,s⟩) m.length c:=by
  rcases s with⟨_,e⟩|⟨d,o,s,c,e,_⟩
  . subst e;simp at Y;omega
  . exact⟨d,o,s,c,e⟩
 subst ev
 have C:I<a.n:=s.lt A (b:=I) rfl
 refine ac (n:=29) (rs:=[.tmp 6]) rfl Tryz.e145 rfl rfl rfl (lbt rfl) ?_
 simp only [BS,Nat.reduceLT]
 refine ag (cL (by exact dh)) S ?_;clear S;intro h t S J
 simp only [BS,Nat.reduceLT,Nat.reduceEqDiff,if_false]
 refine ag (cL (by exact dh)) S ?_;clear S;intro h w S K
 simp only [BS,Nat.reduceLT,Nat.reduceEqDiff,if_false]
 refine ag (cL (by exact bZ)) S ?_;clear S;intro h L S M
 have z3:=(S.row (b:=t) m2).lt S.ok
 have z4:=(S.row (b:=w) m1).lt S.ok
 have zc:=Xb (r.lt A) S.gr.n
 have zd:=Xb C S.gr.n
 have D:=S.gr.load X
 have s':=s.gr S.gr
 simp only [BS]
 refine ar (ay rfl) (q:=0) (ps:=[(8,13),(8,12),(8,9)]) (by kernel_rfl) ?_
 simp only [BS,LB,cls,Nat.reduceLT,Nat.reduceEqDiff,Nat.reduceAdd,Nat.reducePow,Nat.reduceDiv,Nat.reduceMod,Nat.reduceLeDiff,F03,S.ld (b:=t) (o:=0) m2 rfl,S.ld (b:=w) (o:=0) m1 rfl]
 refine fP (dI S.ok (G.gr S.gr)) ?_
 intro h1 u
 have N:=aK u z3
 have O:=aK u z4
 have P:=aK u zc
 have Q:=aK u zd
 have y:=u.load D
 replace S:=S.call u
 simp only [BS,LB,cls,Nat.reduceLT,Nat.reduceEqDiff,Nat.reduceAdd,Nat.reducePow,Nat.reduceDiv,Nat.reduceMod,Nat.reduceLeDiff,F03,y,s'.lenq,B,S.ld (b:=t) (o:=0) m2 rfl,S.ld (b:=w) (o:=0) m1 rfl]
 refine⟨by simp only [bQ,bW,bE,cd,bM,ne_eq,not_false_eq_true,ce,cB,bO,bN,cy,dr,bK,Nat.reduceLT,Nat.reduceEqDiff,reduceIte,Xo,ab,yw,bJ N,bJ O,bJ P,aQ N,aQ O,aQ P,bJ Q,aQ Q],?_⟩
 refine ag aw S ?_;clear S;intro h R S T
 simp only [BS,LB,Nat.reduceLT,Nat.reduceEqDiff]
 refine ax (av S (i:=0) rfl Tryz.t168.2.1 gD (Xx (lbt rfl)) ono) ?_
 clear S;rintro h2 ⟨S,_⟩
 simp only [LC]at S
 simp only [BS,LB,Nat.reduceLT,Nat.reduceEqDiff,F03,S.ld (b:=t) (o:=0) m3 rfl]
 have E:=S.gr
 have z:=S.ok
 have l3:=S.ld (b:=t) (o:=0) m3 rfl
 have l4:=S.ld (b:=w) (o:=0) m2 rfl
 have l5:=S.ld (b:=L) (o:=0) m1 rfl
 have l7:=S.ld (b:=R) (o:=0) m0 rfl
 have hf:=Aq z l (G.gr E) (x.gr E) l3 l5 l4 l7
 refine step_ret (cnodes_ok S.ok dh gD) ?_
 rintro v h4 ⟨g,b1,b2,rfl,Z,ad,y1,y2⟩
 have it:=cnodes_it z g.ok g.keep g.n (x.gr E) (by omega) (g:=195) (post:=#[ptrTo t,ptrTo L,ptrTo w,ptrTo R]) hf y1 y2
 replace S:=S.call g
 simp only [BS,LB,Nat.reduceLT,Nat.reduceEqDiff]
 refine step_ret (zH S.ok (g:=221) (post:=#[ptrTo b1,ptrTo b2]) (iter_w it) (fun _ h=>h.elim) (by have:=vj (n:=j.nodes) (f:=borB j c k);omega)) ?_
 rintro r h5 ⟨f5,G5,d5⟩
 have g5:=f5.gr
 have k5:=S.fr.n
 replace S:=S.call g5
 simp only [BS,LB,ae,Nat.reduceLT,Nat.reduceEqDiff]
 exact⟨S.gr,G5.sl rfl fU (by decide),fun c hc=>by have:=d5 c hc;omega⟩
theorem AS{a:Hp}(e:a.t.Sized a.n){c:Gra}{f d b:Nat}(g:bF a f (ptrTo d) c)(k:b<c.nodes):bC zB 222 [ptrTo d,.int .i64 (b:Nat)] a (.bool true):=by
 have S:=Si e
 have h:(0:Int)<=(b:Int):=by omega
 have i:(b:Int)<(c.nodes:Int):=by omega
 refine ac (n:=17) (rs:=[.tmp 4]) rfl Tryz.e222 rfl rfl rfl (lbt rfl) ?_
 simp only [BS,LB,Nat.reduceLT,Nat.reduceEqDiff,F1b,h]
 refine al (dI S.ok g) ?_
 intro l j
 simp only [BS,LB,ae,Nat.reduceLT,Nat.reduceEqDiff,i]
 exact j
noncomputable def i9(c:Gra)(b a:Nat):Bool:=decide (dOf (seen c.arcs Arc.t Arc.s) b (c.arcs.getD a default).s<FAR/\dOf (seen c.arcs Arc.t Arc.s) b (c.arcs.getD a default).t<FAR/\dOf (seen c.arcs Arc.t Arc.s) b (c.arcs.getD a default).s=(c.arcs.getD a default).w+dOf (seen c.arcs Arc.t Arc.s) b (c.arcs.getD a default).t)
def HoldA(E:Env)(hq:Hp)(x:Nat)(g:FuncId)(post:List Value)(N:Nat)(f:Nat->Bool):Prop:= ∀h,h.t.Sized h.n->(∀b,b<hq.n->b≠x->h.get b=hq.get b)->hq.n<=h.n-> ∀v,v<N->bC E g ([.int .i64 (v:Nat)]++post) h (.bool (f v))
theorem kp{h a:Hp}{b o n:Nat}{l:List Value}(e:h.load b o n=some l)(g:a.get b=h.get b):a.load b o n=some l:=by
 unfold Hp.load at e⊢
 rw [g];exact e
theorem sl_get{a:Type}{h d:Hp}{k:Nat}{enc:a->List Value}{v:Value}{xs:List a}(s:au h k enc v xs)(g: ∀c,ao v c->d.get c=h.get c):au d k enc v xs:=by
 rcases s with s|⟨b,o,s,c,e,f,i⟩
 . exact .inl s
 . exact .inr ⟨b,o,s,c,e,f,kp i (g b (by rw [e];rfl))⟩
theorem tells1_ok{g hq:Hp}(E:g.t.Sized g.n)(j:hq.t.Sized hq.n)(Y:ey g hq)(N:g.n<=hq.n){x:Nat}(hx:g.n<=x){f:Gra}(F:Good f){Z O b r B:Nat}(hn:bF g Z (ptrTo O) f)(C:r≠x)(x5:B≠x)(P: ∀v,IsD (seen f.arcs Arc.t Arc.s) b v (dOf (seen f.arcs Arc.t Arc.s) b v)){D vA vO:Value}(Q:hq.load r 0 1=some [ptrTo O])(R:hq.load B 0 1=some [D])(T:au hq 1 d7 D ((zM f.nodes).map (dOf (seen f.arcs Arc.t Arc.s) b)))(xD: ∀c,ao D c->c≠x):
 HoldA zB hq x 236 [ptrTo r,ptrTo B] f.arcs.length (i9 f b):=by
 intro h ok k nq a G
 have kN:ey g h:=fun c s=>(k c (Xb s N) (by omega)).trans (Y c s)
 have nN:g.n<=h.n:=Xp N nq
 have e2:=kp Q (k r (ct j Q) C)
 have e5:=kp R (k B (ct j R) x5)
 have t:au h 1 d7 D _:=sl_get T (fun c s=>k c (T.lt j s) (xD c s))
 have S:=Si ok
 have U:f.arcs[a]=f.arcs.getD a default:=by simp [Xf,G]
 have hm:f.arcs.getD a default∈f.arcs:=by rw [<-U];exact Xe G
 obtain⟨hs,ht,hw⟩:=F.arcs _ hm
 unfold i9
 have H:=P (f.arcs.getD a default).s
 have I:=P (f.arcs.getD a default).t
 generalize hd:dOf (seen f.arcs Arc.t Arc.s) b=d at H I t
 refine ac (n:=35) (rs:=[.tmp 4]) rfl Tryz.e236 rfl rfl rfl (lbt rfl) ?_
 simp only [BS,LB,Nat.reduceLT,Nat.reduceEqDiff,FF,e2]
 refine step_ret (py S.ok (hn.keep E kN) G) ?_
 rintro rv h4 ⟨g4,rfl⟩
 replace S:=S.call g4
 rw [U]
 generalize f.arcs.getD a default=A at hs ht hw H I
 simp only [BS,LB,Nat.reduceLT,Nat.reduceEqDiff,FF,cw]
 refine ag aw S ?_;clear S;intro h u S V
 simp only [BS,LB,Nat.reduceLT,Nat.reduceEqDiff]
 refine ax (S.store (i:=0) rfl ?_ ?_ rfl rfl ?_ ono) ?_
 . exact(by exact Tryz.t46.2.1)
 . exact(by intro x e;cases e)
 . exact lbt rfl
 clear S;rintro h ⟨S,mo⟩;clear mo;simp only [LC,ah,lay,Xv,Xw,Nat.reduceAdd]at S
 have w:=t.gr S.gr
 have lD:((zM f.nodes).map d).length=f.nodes:=by simp
 obtain⟨c1,o1,x1,J⟩:=w.ix (kd:=.i64) fU (i:=A.t) (by omega)
 obtain⟨c2,o2,C,W⟩:=w.ix (kd:=.i64) fU (i:=A.s) (by omega)
 simp only [List.getElem_map,List.getElem_range,d7]at J W
 have K:=S.gr.load e5
 have z6:=(S.row (b:=u) m0).lt S.ok
 have z5:=ct S.ok K
 have zc:=ct S.ok J
 simp only [BS,LB,Nat.reduceLT,Nat.reduceEqDiff]
 refine ar (ay rfl) (q:=0) (ps:=[]) (by kernel_rfl) ?_
 simp only [BS,LB,cls,Nat.reduceLT,Nat.reduceEqDiff,Nat.reduceAdd,Nat.reducePow,Nat.reduceDiv,Nat.reduceMod,Nat.reduceLeDiff,FF,K,x1,J,S.ld (b:=u) (o:=1) m0 rfl,S.ld (b:=u) (o:=2) m0 rfl]
 refine fP (add_ok S.ok) ?_
 intro h7 p
 have v6:=aK p z6
 have v5:=aK p z5
 have vc:=aK p zc
 replace S:=S.call p
 simp only [BS,LB,cls,Nat.reduceLT,Nat.reduceEqDiff,Nat.reduceAdd,Nat.reducePow,Nat.reduceDiv,Nat.reduceMod,Nat.reduceLeDiff]
 have ad:=FAR_eq
 have b1:=H.le
 have r:=I.le
 have L:wy (wy (wy (d A.t:Nat))+wy (A.w:Nat))=(if d A.t+A.w<FAR then((d A.t+A.w:Nat):Int)else(FAR:Int)):=by
  unfold wy
  repeat' split
  all_goals omega
 rw [L]
 have y:=p.load K
 have z:=p.load W
 by_cases hf:d A.t+A.w<FAR
 . rw [if_pos hf]
   have w1:wy ((d A.t+A.w:Nat):Int)<72057594037927936:=by unfold wy;omega
   have M:decide (wy ((d A.t+A.w:Nat):Int)<72057594037927936)=true:=decide_eq_true w1
   refine al (wX S.ok) ?_
   intro h8 l;replace S:=S.call l
   rw [M]
   by_cases X:d A.s=A.w+d A.t
   . have m:((d A.t+A.w:Nat):Int)=(d A.s:Int):=by omega
     simp only [BS,LB,ae,Nat.reduceLT,Nat.reduceEqDiff,FF,l.load y,C,l.load z,m,S.ld (b:=u) (o:=0) m0 rfl]
     exact⟨by rw [decide_eq_true ⟨by omega,by omega,X⟩],S.gr⟩
   . have m: ¬((d A.t+A.w:Nat):Int)=(d A.s:Int):=by omega
     simp only [BS,LB,ae,Nat.reduceLT,Nat.reduceEqDiff,FF,l.load y,C,l.load z,m,S.ld (b:=u) (o:=0) m0 rfl]
     exact⟨by rw [decide_eq_false (fun h=>X h.2.2)],S.gr⟩
 . rw [if_neg hf]
   have M:decide (wy (FAR:Int)<72057594037927936)=false:=decide_eq_false (by unfold wy;omega)
   refine al (wX S.ok) ?_
   intro h8 l;replace S:=S.call l
   rw [M]
   simp only [BS,LB,ae,Nat.reduceLT,Nat.reduceEqDiff]
   exact⟨by rw [decide_eq_false (fun h=>by omega)],S.gr⟩
theorem tells_ok{d a:Hp}(p:a.t.Sized a.n)(F:d.t.Sized d.n)(u:Gr a d){x:Nat}(G:a.n<=x)(H:x<d.n){f:Gra}(k:Good f){I w b:Nat}(y:bF a I (ptrTo w) f)(J:b<f.nodes):
 Ret zB 225 [ptrTo w,.int .i64 (b:Nat)] d fun r z=>Gr d z/\ ∃g j,r=.func (.func 236) #[] #[ptrTo g,ptrTo j]/\d.n<=g/\d.n<=j/\HoldA zB z x 236 [ptrTo g,ptrTo j] f.arcs.length (i9 f b):=by
 have S:=Si F
 refine ac (n:=10) (rs:=[.tmp 4]) rfl Tryz.e225 rfl rfl rfl (lbt rfl) ?_
 simp only [BS,Nat.reduceLT]
 refine ag (bR (by intro x e;cases e)) S ?_;clear S;intro h g S l;simp only [ah]at S
 simp only [BS,LB,Nat.reduceLT,Nat.reduceEqDiff,F0z,S.ld (b:=g) (o:=0) m0 rfl]
 refine step_ret (qt S.ok k (y.gr (u.trans S.gr)) J) ?_
 rintro r V ⟨K,W,vA,vO,D,X,O,rfl,q,L,M,_,A,N,_⟩
 have Y:=S.fr.n
 replace S:=S.call K
 have P:=q.fl
 have Q:=L.fl
 have R:=M.fl
 have B:D=dOf (seen f.arcs Arc.t Arc.s) b:=funext fun v=>((ui (A v)).1).symm
 have s: ∀v,IsD (seen f.arcs Arc.t Arc.s) b v (dOf (seen f.arcs Arc.t Arc.s) b v):=fun v=>by rw [<-B];exact A v
 rw [B]at q
 simp only [BS,F0z]
 have T:=S.row (b:=g) m0
 have Z:=S.fr.n
 have m:=S.gr
 have t:=S.ok
 clear S
 have S:=Si t
 refine ag aw S ?_;clear S;intro h j S C
 simp only [BS,LB,Nat.reduceLT,Nat.reduceEqDiff]
 refine ax (S.store (i:=0) rfl Tryz.t228.2.1 (by intro x e;cases e) rfl (by simp only [ah,XE,XK,P.2.1,Q.2.1,R.2.1,Xo]) (lbt rfl) ono) ?_
 clear S;rintro h3 ⟨S,_⟩
 simp only [LC,ah,lay,Xv,Xw,Nat.reduceAdd]at S
 simp only [BS,LB,ae,Nat.reduceLT,Nat.reduceEqDiff]
 refine⟨m.trans S.gr,g,j,rfl,l,by omega,?_⟩
 have E:=u.trans (m.trans S.gr)
 exact tells1_ok p S.ok E.keep E.n G k y (by omega) (by omega) s (vA:=vA) (vO:=vO) ((T.gr S.gr).load1 (o:=0) rfl) (S.ld (b:=j) (o:=0) m0 rfl) (q.gr S.gr) (fun c U e=>by have:=N c (.inl U);omega)
def Tryz.F0A:=aj t1<|aj t2<|aj t3<|aj t4<|t168
def Tryz.F0B:=aj t1<|aj t2<|aj t3<|aj t4<|aj t9<|aj t152<|t224
def Tryz.FQ:=aj t1<|aj t2<|aj t3<|aj t4<|aj t5<|aj t6<|aj Z1<|aj Z4<|aj t9<|aj t10<|aj t29<|aj Z0<|aj t42<|aj t92<|aj Z2<|aj t152<|aj t168<|t224
theorem marked_ok{a:Hp}(i:a.t.Sized a.n){n:Nat}{f:Value}(j:Fl f):Ret zB 224 [.int .i64 (n:Nat),f] a fun v g=>Gr a g/\ ∃b c,v=.func (.func 235) #[] #[ptrTo b,ptrTo c]/\a.n<=b/\a.n<=c/\g.load b 0 1=some [.int .i64 (n:Nat)]/\g.load c 0 1=some [f]:=by
 have S:=Si i
 refine ac (n:=6) (rs:=[.tmp 4]) rfl Tryz.e224 rfl rfl rfl (lbt rfl) ?_
 simp only [BS,Nat.reduceLT]
 refine ag (cL (by exact bZ)) S ?_;clear S;intro h b S d
 simp only [BS,Nat.reduceLT,Nat.reduceEqDiff,if_false]
 refine ag (cL (by assumption)) S ?_;clear S;intro h c S e
 simp only [BS,LB,ae,Nat.reduceLT,Nat.reduceEqDiff]
 exact⟨S.gr,b,c,rfl,d,e,S.ld m1 rfl,S.ld m0 rfl⟩
theorem marked_it {hq b:Hp} (A:hq.t.Sized hq.n) (j:b.t.Sized b.n) (B:ey hq b) (u:hq.n<=b.n) {x:Nat} {N:Nat} (L:N<=1000) {k l:Nat} {g:FuncId} {post:Array Value} {f:Nat->Bool} (hf:HoldA zB hq x g post.toList N f)
 (C:b.load k 0 1=some [.int .i64 (N:Nat)]) (D:b.load l 0 1=some [.func (.func g) #[] post]):
 qK zB 235 [] [ptrTo k,ptrTo l] b (fun c=>c=k\/c=l\/(c<hq.n/\c≠x)) (((zM N).filter f).map fun(v:Nat)=>[.int .i64 (v:Nat)]):=by
 intro E J Z G Y h F s d
 have y:=s.load j C (.inl rfl)
 refine enter (n:=19) (rs:=[]) rfl Tryz.e235 rfl rfl rfl (lbt rfl) ?_
 simp only [BS,LB,Nat.reduceLT,F0A,y]
 refine aD (fun(i:Nat) e h=>i<=N/\ ∃F,ItS b (fun c=>c=k\/c=l\/(c<hq.n/\c≠x)) h F/\J ((zM i).filter f).length h F/\e 0=.func (.yield E) #[] #[]/\e 1=ptrTo k/\e 2=ptrTo l/\e 5=.int .i64 (N:Nat)/\e 6=.int .i64 i) (fun i=>N-i) ?_ 0 _ _ ?_
 . clear y s d F h
   intro i z e h ⟨hi,F,s,d,r0,r1,r2,r5,r6⟩
   have w:am .i64 ((i:Int)+1)=((i+1:Nat):Int):=by rw [wrap64]<;>omega
   by_cases hlt:i<N
   . have H:=s.load j D (.inr (.inl rfl))
     simp only [BS,LB,Nat.reduceLT,Nat.reduceEqDiff,F0A,r2,r5,r6,aq,hlt,H]
     refine al (hf _ s.ok (fun c o p=>(s.data c (Xb o u) (.inr (.inr ⟨o,p⟩))).trans (B c o)) (Xp u s.n) i hlt) ?_
     intro M m
     cases q:f i with
     | true=>
       have p:(((zM N).filter f).map fun(v:Nat)=>[Value.int .i64 (v:Nat)])[((zM i).filter f).length]? =some [.int .i64 (i:Nat)]:=by
        rw [Xt,uk q _ hlt];rfl
       have r:((zM (i+1)).filter f).length=((zM i).filter f).length+1:=by rw [ke,if_pos q];simp
       simp only [BS,LB,Nat.reduceLT,Nat.reduceEqDiff,r0]
       refine eU Y (s.gr m) (Y.gr _ _ _ _ d m) (i:=((zM i).filter f).length) p ?_ ?_ ?_
       . intro t I a K _ _
         simp only [BS,LB,Nat.reduceLT,Nat.reduceEqDiff,r6,w]
         exact z (i+1) _ _ (by omega) ⟨by omega,I,K,by rw [r];exact a,by simp [aa,r0],by simp [aa,r1,ab],by simp [aa,r2,ab],by simp [aa,r5],by simp [aa]⟩
       . intro t a _
         simp only [BS,LB,Nat.reduceLT,Nat.reduceEqDiff]
         exact gy rfl ⟨rfl,.inr (.inl ⟨_,rfl,a⟩)⟩
       . intro v t a
         exact absurd a (G v t)
     | false=>
       have r:(zM (i+1)).filter f=(zM i).filter f:=by rw [ke,if_neg (by rw [q];decide)];simp
       simp only [BS,LB,Nat.reduceLT,Nat.reduceEqDiff,r6,w]
       exact z (i+1) _ _ (by omega) ⟨by omega,F,s.gr m,by rw [r];exact Y.gr _ _ _ _ d m,by simp [aa,r0],by simp [aa,r1,ab],by simp [aa,r2,ab],by simp [aa,r5],by simp [aa]⟩
   . simp only [BS,LB,Nat.reduceLT,r5,r6,aq,hlt]
     have:i=N:=by omega
     subst this
     exact dZ (dV ⟨rfl,_,rfl,rfl,.inl ⟨_,F,rfl,by simpa using d⟩⟩)
 . exact⟨Xl _,F,s,d,by simp [aa,cD],by simp [aa,cD,ab],by simp [aa,cD,ab],by simp [aa],by simp [aa]⟩
def eJ(n:Nat)(f:Nat->Bool):List Value:=(zM n).map fun j=>.bool (f j)
theorem bolC_len{n:Nat}{f:Nat->Bool}:(eJ n f).length=n:=by simp [eJ]
theorem bolC_at{n j:Nat}{f:Nat->Bool}(h:j<n):(eJ n f)[j]? =some (.bool (f j)):=lU (F:=fun j=>Value.bool (f j)) h
theorem bolC_set{n j:Nat}{f:Nat->Bool}:(eJ n f).set j (.bool true)=eJ n (fun u=>decide (u=j)||f u):=by
 have:=jq (N:=n) (k:=j) (F:=fun j=>Value.bool (f j)) (F':=fun u=>Value.bool (decide (u=j)||f u)) (fun i _ a=>by simp [a])
 unfold eJ
 rw [<-this];simp
theorem nY{n:Nat}{f g:Nat->Bool}(h: ∀j,j<n->f j=g j):eJ n f=eJ n g:=by
 unfold eJ
 refine XW fun j a=>?_
 rw [h j (List.mem_range.1 a)]
theorem putB_ok{l:Hp}(G:l.t.Sized l.n){d n:Nat}{f:Nat->Bool}(R:Row l d (eJ n f) 1){g:FuncId}{post:Array Value}{D:Nat->Prop}{xs:List Nat}(N:qK zB g [] post.toList l D (xs.map fun(v:Nat)=>[.int .i64 (v:Nat)]))(H: ¬D d)(C: ∀x∈xs,x<n)(hl:xs.length<=1000):
 Ret zB 223 [.slice (some ⟨d,0,none⟩) n n,.func (.func g) #[] post,.bool true] l fun r w=>Mo (· =d) l w/\r=.slice (some ⟨d,0,none⟩) n n/\Row w d (eJ n (fun u=>decide (u∈xs)||f u)) 1:=by
 have S:=St.init1 G (o:=.row (eJ n f) 1) R
 have zl:=R.lt G
 refine ac (n:=15) (rs:=[.tmp 6]) rfl Tryz.e223 rfl rfl rfl (lbt rfl) ?_
 simp only [BS,Nat.reduceLT]
 refine ag (cL (by exact bU)) S ?_;clear S;intro h p S I
 simp only [BS,Nat.reduceLT,Nat.reduceEqDiff,if_false]
 refine ag (cL (by exact oD)) S ?_;clear S;intro h z S J
 simp only [BS,Nat.reduceLT,Nat.reduceEqDiff,if_false]
 have O:eJ n f=eJ n (fun u=>decide (u∈xs.take 0)||f u):=nY fun j _=>by simp
 refine jv S (g:=g) (a:=#[]) (b:=post) (by simp [cy,aa,ab]) rfl rfl ?_
 intro K B A q P Q g2
 obtain⟨X,M,q⟩: ∃X:fG,X=_/\St (· =d) l K [(A,.loop X),(B,.dfr),(z,.row [.bool true] 1),(p,.row [.slice (some ⟨d,0,none⟩) n n] 1),(d,.row (eJ n f) 1)] []:=⟨_,rfl,q⟩
 have V:Yld zB A (fun k w F=>St (· =d) l w [(A,.loop X),(B,.dfr),(z,.row [.bool true] 1),(p,.row [.slice (some ⟨d,0,none⟩) n n] 1),(d,.row (eJ n (fun u=>decide (u∈xs.take k)||f u)) 1)] []/\k<=xs.length/\F=[A,B,z,p,d]) (fun _ _=>False) (xs.map fun(v:Nat)=>[.int .i64 (v:Nat)]):=by
  refine⟨?_,?_,fun _ _ h=>h.elim,?_⟩
  . rintro i h F ⟨S,_,rfl⟩;exact⟨S.ok,fun b m=>S.key_lt (by simpa [keys]using m)⟩
  . rintro i h F w ⟨S,a,rfl⟩ W;exact⟨S.call W,a,rfl⟩
  . rintro i x hR F E ⟨S,a,rfl⟩
    have s:i<xs.length:=by
     have:=(List.getElem?_eq_some_iff.1 E).1
     simpa using this
    rw [Xt,Xj s]at E
    cases E
    have t:=C _ (Xe s)
    have Y:eJ n (fun u=>decide (u∈xs.take (i+1))||f u)=(eJ n (fun u=>decide (u∈xs.take i)||f u)).set xs[i] (.bool true):=by
     rw [bolC_set]
     refine nY fun j _=>?_
     rw [zO s]
     simp only [XQ,Xs]
     by_cases Z:j=xs[i]<;>by_cases e2:j∈xs.take i<;>simp [Z,e2]
    rw [Y]
    generalize xs[i]=x at t
    subst M
    refine jx (S.get m0) (by rw [Tryz.e223];rfl) rfl ?_
    have S0:=S
    replace S:=S.base
    simp only [BS,LB,Nat.reduceLT,Nat.reduceEqDiff]
    refine iK S (i:=0) rfl rfl rfl rfl rfl ?_
    clear S;intro h S
    simp only [LC]at S
    simp only [BS,LB,Nat.reduceLT,Nat.reduceEqDiff,F0B,t,S.ld (b:=p) (o:=0) m3 rfl,S.ld (b:=z) (o:=0) m2 rfl]
    refine ax (av S (i:=4) rfl Tryz.t4.2.2.1 oD (by rw [bolC_len];exact t) ono) ?_
    clear S;rintro h ⟨S,_⟩
    simp only [LC]at S
    simp only [BS]
    refine eZ S (i:=0) rfl ?_
    clear S;intro h S
    simp only [LC]at S
    refine .inl ⟨rfl,_,⟨S0.rebase S,by omega,rfl⟩,?_,fun c hc=>.inl hc⟩
    have:=S.fr
    simp only [keys,List.map_cons,List.map_nil,List.filterMap_nil,XD]at this
    exact this
 refine gL (N A _ _ (fun _ _ h=>h) V K [A,B,z,p,d] ?_ ⟨by rw [<-O];exact q,Xl _,rfl⟩) fun o rc w y=>kC y ?_
 . have kn:=S.fr.n
   refine⟨q.ok,q.fr.n,fun b m hd=>q.fr.get b m (fun e=>H (e▸hd)),fun b m h=>?_,fun b m=>q.key_lt (by simpa [keys]using m)⟩
   simp only [XF,Xy,or_false]at m
   rcases m with rfl|rfl|rfl|rfl|rfl
   . omega
   . omega
   . omega
   . omega
   . exact H h.2
 . rintro F ⟨T,_,rfl⟩
   rw [XA,Xr]at T
   subst M
   refine⟨_,T.get m0,XP,?_⟩
   replace T:=T.dead
   have S:=T
   show Run _ _ _ _ _ _ _ _
   simp only [BS,LB,Nat.reduceLT,Nat.reduceEqDiff,F0B,S.ld (b:=p) (o:=0) m2 rfl]
   refine gP (ku [B] _ (L:=[(z,_),(p,_),(d,_)]) T.base fun h4 S4=>?_)
   refine⟨rfl,(qd (by decide)).2 (jB.2 ?_)⟩
   have U:=T.rebase S4
   exact⟨U.fr,rfl,U.row m2⟩
theorem anyT_ok {k:Hp} (N:k.t.Sized k.n) {d:Gra} (m:Good d) {O z b:Nat} {A:Value} {xs:List Nat} (B:bF k O (ptrTo z) d) (H:b<d.nodes) (C:au k 1 d7 A xs) (p:xs=[b]):
 Ret zB 196 [ptrTo z,A] k fun r I=>Gr k I/\ ∃f,r=.slice (some ⟨f,0,none⟩) d.arcs.length d.arcs.length/\Row I f (eJ d.arcs.length (i9 d b)) 1/\k.n<=f:=by
 have S:=Si N
 have J:=m.many
 have fL:=C.fl
 have hl:xs.length=1:=by rw [p];rfl
 refine ac (n:=32) (rs:=[.tmp 4]) rfl Tryz.e196 rfl rfl rfl (lbt rfl) ?_
 simp only [BS,LB,Nat.reduceLT,Nat.reduceEqDiff,FQ]
 refine al (nQ S.ok B) ?_
 intro h1 P;replace S:=S.call P
 simp only [BS,LB,Nat.reduceLT,Nat.reduceEqDiff]
 have D:=S.gr
 have q:=S.ok
 clear S
 have S:=Si q
 rename Hp=>hA
 refine ag (m9 (by exact Tryz.t224.1) (by exact Tryz.e4E) (by omega) (by omega)) S ?_;clear S;intro h f S s
 have Q:aR [Value.bool false] d.arcs.length=eJ d.arcs.length (fun a=>decide (0=1)&&i9 d b a):=by
  rw [oX]
  unfold eJ
  simp [List.map_const']
 rw [Int.toNat_natCast,Q]at S
 simp only [BS,LB,Nat.reduceLT,Nat.reduceEqDiff,FQ,Int.toNat_natCast,C.lenq]
 refine aD (fun(i:Nat) l h=>i<=1/\St NoM hA h [(f,.row (eJ d.arcs.length (fun a=>decide (i=1)&&i9 d b a)) 1)] []/\l 0=ptrTo z/\l 5=.slice (some ⟨f,0,none⟩) d.arcs.length d.arcs.length/\l 13=A/\l 14=.int .i64 (xs.length:Nat)/\l 15=.int .i64 i) (fun i=>1-i) ?_ 0 _ _ ?_
 . clear S
   intro i R l h ⟨hi,S,r0,r5,r13,r14,r15⟩
   have w:am .i64 ((i:Int)+1)=((i+1:Nat):Int):=by rw [wrap64]<;>omega
   have E:=D.trans S.gr
   by_cases hlt:i<xs.length
   . have K:i=0:=by omega
     obtain⟨c,o,T,t⟩:=(C.gr E).ix (kd:=.i64) fU hlt
     have U:xs[i]=b:=by subst p;subst K;rfl
     rw [U]at t
     replace t:h.load c o 1=some [.int .i64 (b:Nat)]:=t
     simp only [BS,LB,Nat.reduceLT,Nat.reduceEqDiff,FQ,r0,r13,r14,r15,aq,hlt,T,t]
     refine al (AS S.ok (B.gr E) H) ?_
     intro h2 V;replace S:=S.call V
     have hS:=S.gr
     have F:=(S.row (b:=f) m0).lt S.ok
     simp only [BS,LB,Nat.reduceLT,Nat.reduceEqDiff,FQ,r0,r5]
     refine step_ret (tells_ok q S.ok S.gr (x:=f) s F m (B.gr D) H) ?_
     rintro v h3 ⟨L,W,X,rfl,n2,n5,hf⟩
     replace S:=S.call L
     have G:=S.ok
     simp only [BS,LB,Nat.reduceLT,Nat.reduceEqDiff]
     refine step_ret (marked_ok S.ok (n:=d.arcs.length) gD) ?_
     rintro v h4 ⟨y,Y,Z,rfl,n1,n3,y1,y3⟩
     have it:=marked_it G y.ok y.keep y.n (x:=f) (by omega) (g:=236) (post:=#[ptrTo W,ptrTo X]) hf y1 y3
     have kg:=L.n
     replace S:=S.call y
     simp only [BS,LB,Nat.reduceLT,Nat.reduceEqDiff]
     refine step_ret (putB_ok S.ok (S.row (b:=f) m0) (g:=235) (post:=#[ptrTo Y,ptrTo Z]) it (fun h=>?_) (fun x hx=>List.mem_range.1 (List.mem_filter.1 hx).1) (Xp vj (by omega))) ?_
     . rcases h with h|h|h
       . omega
       . omega
       . exact h.2 rfl
     . rintro v h5 ⟨f5,rfl,R5⟩
       have M:=S.call1 (i:=0) (o':=.row _ 1) rfl f5 R5
       simp only [List.set_cons_zero]at M
       simp only [BS,LB,Nat.reduceLT,Nat.reduceEqDiff,r15,w]
       refine R (i+1) _ _ (by omega) ⟨by omega,?_,by simp [aa,r0,ab],by simp [aa],by simp [aa,r13],by simp [aa,r14],by simp [aa]⟩
       have e:eJ d.arcs.length (fun a=>decide (i+1=1)&&i9 d b a)=eJ d.arcs.length (fun u=>decide (u∈(zM d.arcs.length).filter (i9 d b))||(decide (i=1)&&i9 d b u)):=nY fun j hj=>by
        subst K
        simp [List.mem_filter,hj]
       rw [e]
       exact M
   . have i1:i=1:=by omega
     simp only [BS,LB,ae,Nat.reduceLT,Nat.reduceEqDiff,r5,r14,r15,aq,hlt]
     refine⟨E,f,rfl,?_,by have:=D.n;omega⟩
     have e:eJ d.arcs.length (i9 d b)=eJ d.arcs.length (fun a=>decide (i=1)&&i9 d b a):=nY fun j _=>by rw [decide_eq_true i1,XT]
     rw [e]
     exact S.row m0
 . exact⟨Xl _,S,by simp [aa,cD,ab],by simp [aa],by simp [aa],by simp [aa],by simp [aa]⟩
theorem arcsT_ok{c:Hp}(k:c.t.Sized c.n){a:Gra}(e:Good a){l g b:Nat}(m:bF c l (ptrTo g) a)(p:b<a.nodes):
 Ret zB 146 [ptrTo g,.int .i64 (b:Nat)] c fun r i=>Gr c i/\ ∃d,r=.slice (some ⟨d,0,none⟩) a.arcs.length a.arcs.length/\Row i d (eJ a.arcs.length (i9 a b)) 1/\c.n<=d:=by
 have S:=Si k
 refine ac (n:=9) (rs:=[.tmp 4]) rfl Tryz.e146 rfl rfl rfl (lbt rfl) ?_
 simp only [BS,LB,Nat.reduceLT,Nat.reduceEqDiff]
 refine ag (bj (by exact Tryz.t42.1) (by exact XB) (by decide) (by rfl)) S ?_;clear S;intro h f S j;simp only [LC,aR,bo,ah,Nat.reduceMul,Nat.reduceAdd,Xi,Xg,Xk,Xm]at S
 simp only [BS,LB,Nat.reduceLT,Nat.reduceEqDiff]
 have q:au h 1 d7 (.slice (some ⟨f,0,none⟩) 1 1) [b]:=.inr ⟨f,0,none,1,rfl,Xz _,S.lds (b:=f) (o:=0) (n:=1*1) m0 (lbt rfl)⟩
 have t:=S.fr.n
 refine step_ret (anyT_ok S.ok e (m.gr S.gr) p q rfl) ?_
 rintro r u ⟨s,d,rfl,R,v⟩
 replace S:=S.call s
 simp only [BS,LB,ae,Nat.reduceLT,Nat.reduceEqDiff]
 exact⟨S.gr,d,rfl,R,by omega⟩
end Go.Ab
end
section
namespace Go.Ab
open Go.Proofs
set_option maxRecDepth 10000
def Tryz.F0C:=aj t1<|aj t2<|aj t3<|aj t4<|aj t5<|aj t6<|aj Z1<|aj t29<|aj Z0<|aj t92<|aj Z2<|t168
def Tryz.F1c:=aj t1<|aj t3<|aj t4<|aj t29<|aj t31<|aj Z0<|aj t42<|aj t92<|aj Z2<|Z5
def Tryz.F1d:=aj t1<|aj t3<|aj t4<|t224
def Tryz.FR:=aj t1<|aj t2<|aj t3<|aj t4<|aj t5<|aj t6<|aj Z1<|aj Z4<|aj t29<|aj t31<|aj Z0<|aj t42<|aj t92<|aj Z2<|aj Z5<|aj t168<|aj t221<|t224
def Own(B:Nat->Prop)(a h:Hp)(F:List Nat):Prop:=a.n<=h.n/\ ∀b,B b->b<a.n/\b∉F/\h.get b=a.get b
theorem Own.gr{B:Nat->Prop}{c h d:Hp}{F:List Nat}(o:Own B c h F)(g:Gr h d):Own B c d F:=
 ⟨Xp o.1 g.n,fun b a=>⟨(o.2 b a).1,(o.2 b a).2.1,(g.get b (Xb (o.2 b a).1 o.1)).trans (o.2 b a).2.2⟩⟩
theorem Own.mo{B:Nat->Prop}{a h c:Hp}{F F':List Nat}(o:Own B a h F)(m:Mo (· ∈F) h c)(f: ∀b∈F',b∈F\/h.n<=b):Own B a c F':=
 ⟨Xp o.1 m.n,fun b g=>by
  obtain⟨d,e,i⟩:=o.2 b g
  have hlt:=Xb d o.1
  exact⟨d,fun j=>(f b j).elim e (fun h=>by omega),(m.get b hlt e).trans i⟩⟩
section
variable{γ:Gra}{nb mb bp k:Nat}{p:Value}{m:List Int}{c:Nat->Nat}
theorem won_ok{d j:Hp}{D:Nat->Prop}(x:d.t.Sized d.n){M:Nat}{J:Nat->Hp->List Nat->Prop}{Z:Out->Hp->Prop}{xs:List (List Value)}(y:Good γ)(P: ∀v h,¬Z (.pan v) h)(Y:Yld zB M J Z xs){B:Nat->Prop}{b z:Nat}(A:B b)(Q:j.load b 0 1=some [.func (.yield M) #[] #[]])(R:D z)(e3:d.load z 0 1=some [ptrTo bp])(l: ∀h F,ItS d D h F->bF h nb (ptrTo bp) γ)
 {g:FuncId} {post:Array Value} {f:Nat->Bool} (C: ∀h F,ItS d D h F->Own B j h F-> ∀a,a<γ.arcs.length->bC zB g ([.int .i64 (a:Nat)]++post.toList) h (.bool (f a))) {q:Nat} (S: ∀a,a<γ.arcs.length->f a=true->xs[q+((zM a).filter f).length]? =some [.int .i64 (a:Nat)]) {h:Hp} {F:List Nat} (s:ItS d D h F) (o:Own B j h F) (r:J q h F):
 Ret zB 142 [.func (.func g) #[] post,ptrTo z,ptrTo b] h fun v u=>(v=.bool true/\ ∃F',ItS d D u F'/\Own B j u F'/\J (q+((zM γ.arcs.length).filter f).length) u F')\/(v=.bool false/\Z (.ret (.bool false)) u):=by
 have N:=y.many
 have T:=s.load x e3 R
 refine ac (n:=21) (rs:=[.tmp 4]) rfl Tryz.e142 rfl rfl rfl (lbt rfl) ?_
 simp only [BS,LB,Nat.reduceLT,Nat.reduceEqDiff,F0C,T]
 refine al (nQ s.ok (l _ _ s)) ?_
 intro W E
 simp only [BS]
 refine aD (fun(i:Nat) t h=>i<=γ.arcs.length/\ ∃F,ItS d D h F/\Own B j h F/\J (q+((zM i).filter f).length) h F/\t 0=.func (.func g) #[] post/\t 2=ptrTo b/\t 7=.int .i64 (γ.arcs.length:Nat)/\t 8=.int .i64 i) (fun i=>γ.arcs.length-i) ?_ 0 _ _ ?_
 . intro i O t h ⟨hi,F,s,o,r,r0,r2,r7,r8⟩
   have w:am .i64 ((i:Int)+1)=((i+1:Nat):Int):=by rw [wrap64]<;>omega
   by_cases hlt:i<γ.arcs.length
   . simp only [BS,LB,Nat.reduceLT,Nat.reduceEqDiff,r0,r7,r8,aq,hlt]
     refine al (C _ _ s o i hlt) ?_
     intro X e
     have G:=kp Q ((o.gr e).2 b A).2.2
     cases H:f i with
     | true=>
       have I:((zM (i+1)).filter f).length=((zM i).filter f).length+1:=by rw [ke,if_pos H];simp
       simp only [BS,LB,Nat.reduceLT,Nat.reduceEqDiff,F0C,r2,G]
       refine eU Y (s.gr e) (Y.gr _ _ _ _ r e) (i:=q+((zM i).filter f).length) (S i hlt H) ?_ ?_ ?_
       . intro K U a V m3 L
         simp only [BS,LB,Nat.reduceLT,Nat.reduceEqDiff,r8,w]
         exact O (i+1) _ _ (by omega) ⟨by omega,U,V,(o.gr e).mo m3 L,by rw [I];exact a,by simp [aa,r0],by simp [aa,r2,ab],by simp [aa,r7],by simp [aa]⟩
       . intro K a _
         simp only [BS,LB,ae,Nat.reduceLT,Nat.reduceEqDiff]
         exact .inr a
       . intro v K a
         exact absurd a (P v K)
     | false=>
       have I:(zM (i+1)).filter f=(zM i).filter f:=by rw [ke,if_neg (by rw [H];decide)];simp
       simp only [BS,LB,Nat.reduceLT,Nat.reduceEqDiff,r8,w]
       exact O (i+1) _ _ (by omega) ⟨by omega,F,s.gr e,o.gr e,by rw [I];exact Y.gr _ _ _ _ r e,by simp [aa,r0],by simp [aa,r2,ab],by simp [aa,r7],by simp [aa]⟩
   . have:i=γ.arcs.length:=by omega
     subst this
     simp only [BS,LB,ae,Nat.reduceLT,Nat.reduceEqDiff,r7,r8,aq,hlt]
     exact .inl ⟨F,s,o,r⟩
 . exact⟨Xl _,F,s.gr E,o.gr E,Y.gr _ _ _ _ r E,by simp [aa,cD],by simp [aa,cD,ab],by simp [aa],by simp [aa]⟩
theorem worth_ok{a:Hp}(l:a.t.Sized a.n)(o:Fl p):Ret zB 81 [ptrTo bp,p,.int .i64 (k:Nat)] a fun v j=>Gr a j/\ ∃b d e,v=.func (.func 141) #[] #[ptrTo b,ptrTo d,ptrTo e]/\a.n<=b/\a.n<=d/\a.n<=e/\j.load b 0 1=some [ptrTo bp]/\j.load d 0 1=some [p]/\j.load e 0 1=some [.int .i64 (k:Nat)]:=by
 have S:=Si l
 refine ac (n:=8) (rs:=[.tmp 6]) rfl Tryz.e81 rfl rfl rfl (lbt rfl) ?_
 simp only [BS,Nat.reduceLT]
 refine ag (cL (by exact dh)) S ?_;clear S;intro h b S f
 simp only [BS,Nat.reduceLT,Nat.reduceEqDiff,if_false]
 refine ag (cL (by assumption)) S ?_;clear S;intro h d S g
 simp only [BS,Nat.reduceLT,Nat.reduceEqDiff,if_false]
 refine ag (cL (by exact bZ)) S ?_;clear S;intro h e S i
 simp only [BS,LB,ae,Nat.reduceLT,Nat.reduceEqDiff]
 exact⟨S.gr,b,d,e,rfl,f,g,i,S.ld m2 rfl,S.ld m1 rfl,S.ld m0 rfl⟩
def insB(γ:Gra)(c:Nat->Nat)(k a:Nat):Bool:=decide (c (γ.arcs.getD a default).s=k/\c (γ.arcs.getD a default).t=k)
theorem worth2_ok{h:Hp}(g:h.t.Sized h.n)(b:Good γ)(i:bF h nb (ptrTo bp) γ)(x:im h mb p γ.nodes m c){d e f:Nat}(j:h.load d 0 1=some [ptrTo bp])(l:h.load e 0 1=some [p])(o:h.load f 0 1=some [.int .i64 (k:Nat)]){a:Nat}(q:a<γ.arcs.length):
 bC zB 143 ([.int .i64 (a:Nat)]++[ptrTo d,ptrTo e,ptrTo f]) h (.bool (insB γ c k a)):=by
 refine ac (n:=11) (rs:=[.tmp 5]) rfl Tryz.e143 rfl rfl rfl (lbt rfl) ?_
 simp only [BS,LB,Nat.reduceLT,Nat.reduceEqDiff,F1c,j,l,o]
 refine al (inside_ok (N:=0) g b i x q) ?_
 intro s r
 simp only [BS,LB,ae,Nat.reduceLT,Nat.reduceEqDiff]
 exact⟨rfl,r⟩
theorem worth3_ok{h:Hp}(g:h.t.Sized h.n){b d n:Nat}{f:Nat->Bool}(i:h.load b 0 1=some [.slice (some ⟨d,0,none⟩) n n])(R:Row h d (eJ n f) 1){a:Nat}(e:a<n):
 bC zB 147 ([.int .i64 (a:Nat)]++[ptrTo b]) h (.bool (f a)):=by
 have S:=Si g
 have j:=R.load1 (bolC_at (f:=f) e)
 have l:(a:Int)<(n:Int):=by omega
 refine ac (n:=14) (rs:=[.tmp 3]) rfl Tryz.e147 rfl rfl rfl (lbt rfl) ?_
 simp only [BS,LB,ae,Nat.reduceLT,Nat.reduceEqDiff,F1d,i,l,e,j]
 exact S.gr
theorem flat_at{a b:Type}{f:a->List b}{l:List a}{j q:Nat}{x:b}(d:j<l.length)(h:(f l[j])[q]? =some x):(l.flatMap f)[((l.take j).flatMap f).length+q]? =some x:=by
 have e:l=l.take j++l[j]::l.drop (j+1):=by rw [<-XI d,XR]
 conv=>lhs;rw [e]
 rw [Xh,Xc,XG (by simp)]
 have g:=(List.getElem?_eq_some_iff.1 h).1
 have i:(Xv j l++l[j]::Xw (j+1) l).take j=l.take j:=by rw [<-e]
 rw [i,XL,XJ g]
 exact h
noncomputable def oH(γ:Gra)(b:Nat):List Nat:=(zM γ.arcs.length).filter (i9 γ b)
noncomputable def dT(γ:Gra)(c:Nat->Nat)(k:Nat):List Nat:=(zM γ.arcs.length).filter (insB γ c k)++((zM γ.nodes).filter (borB γ c k)).flatMap (oH γ)
theorem worth1_it {hq z:Hp} (O:hq.t.Sized hq.n) (t:z.t.Sized z.n) (kq:ey hq z) (nq:hq.n<=z.n) (y:Good γ) (hn:bF hq nb (ptrTo bp) γ) (x:im hq mb p γ.nodes m c) {A D E:Nat} (e3:z.load A 0 1=some [ptrTo bp]) (e4:z.load D 0 1=some [p]) (e5:z.load E 0 1=some [.int .i64 (k:Nat)]):
 qK zB 141 [] [ptrTo A,ptrTo D,ptrTo E] z (fun c=>c=A\/c=D\/c=E\/c<hq.n) ((dT γ c k).map fun(a:Nat)=>[.int .i64 (a:Nat)]):=by
 intro lb J Z hz Y h F s P
 have n2:=y.n2
 have fp:Fl p:=by obtain⟨b,_,rfl,_⟩:=x.at0;exact dh
 have kN: ∀h F,ItS z (fun c=>c=A\/c=D\/c=E\/c<hq.n) h F->ey hq h:=fun h F s=>s.keep kq nq (fun c hc=>.inr (.inr (.inr hc)))
 have u: ∀h F,ItS z (fun c=>c=A\/c=D\/c=E\/c<hq.n) h F->bF h nb (ptrTo bp) γ:=fun h F s=>hn.keep O (kN h F s)
 have G: ∀h F,ItS z (fun c=>c=A\/c=D\/c=E\/c<hq.n) h F->im h mb p γ.nodes m c:=fun h F s=>x.keep O (kN h F s)
 have ad: ∀a,a<γ.arcs.length->insB γ c k a=true->((dT γ c k).map fun(a:Nat)=>[Value.int .i64 (a:Nat)])[0+((zM a).filter (insB γ c k)).length]? =some [.int .i64 (a:Nat)]:=fun a I q=>by
  have U:=uk q _ I
  unfold dT
  rw [Xg,Xt,XJ (List.getElem?_eq_some_iff.1 U).1,U];rfl
 have S:=Si s.ok
 refine enter (n:=31) (rs:=[]) rfl Tryz.e141 rfl rfl rfl (lbt rfl) ?_
 simp only [BS,LB,Nat.reduceLT]
 refine ag (cL (by exact gD)) S ?_;clear S;intro h l S af
 have s1:=s.gr S.gr
 have j1:=Y.gr _ _ _ _ P S.gr
 have zy:=(S.row (b:=l) m0).lt S.ok
 have ly:=S.ld (b:=l) (o:=0) m0 rfl
 have o1:Own (· =l) _ _ F:=⟨Xz _,fun b q=>⟨by subst q;exact zy,fun H=>by subst q;have:=s.lt _ H;omega,rfl⟩⟩
 simp only [BS,LB,Nat.reduceLT,Nat.reduceEqDiff]
 refine step_ret (won_ok t y hz Y (B:=(· =l)) rfl ly (.inl rfl) e3 u (g:=143) (post:=#[ptrTo A,ptrTo D,ptrTo E]) (f:=insB γ c k) (fun h F s _ a I=>worth2_ok s.ok y (u _ _ s) (G _ _ s) (s.load t e3 (.inl rfl)) (s.load t e4 (.inr (.inl rfl))) (s.load t e5 (.inr (.inr (.inl rfl)))) I) ad s1 o1 j1) ?_
 rintro v h2 (⟨rfl,F2,C,o2,j2⟩|⟨rfl,z2⟩)
 . simp only [BS,LB,Nat.reduceLT,Nat.reduceEqDiff,FR,C.load t e3 (.inl rfl),C.load t e4 (.inr (.inl rfl)),C.load t e5 (.inr (.inr (.inl rfl)))]
   refine step_ret (border_ok C.ok y (u _ _ C) (G _ _ C) (k:=k)) ?_
   rintro M Q ⟨gB,V,nB⟩
   have sA:=C.gr gB
   have jA:=Y.gr _ _ _ _ j2 gB
   have W:=o2.gr gB
   have lB:Q.load l 0 1=some [.func (.yield lb) #[] #[]]:=kp ly (W.2 l rfl).2.2
   have ai:l<Q.n:=Xb zy W.1
   have oB:Own (fun c=>c=l\/ao M c) Q Q F2:=⟨Xz _,fun b q=>⟨q.elim (fun e=>by subst e;exact ai) (fun h=>V.lt sA.ok h),fun H=>q.elim (fun e=>(W.2 b e).2.1 H) (fun h=>by have:=nB b h;have:=C.lt b H;omega),rfl⟩⟩
   generalize X:(zM γ.nodes).filter (borB γ c k)=L at V
   have ak: ∀b∈L,b<γ.nodes:=fun b q=>by rw [<-X]at q;exact List.mem_range.1 (List.mem_filter.1 q).1
   have a0:L.length<=γ.nodes:=by rw [<-X];exact vj
   simp only [BS,LB,Nat.reduceLT,Nat.reduceEqDiff,FR,V.lenq]
   refine aD (fun(j:Nat) N h=>j<=L.length/\ ∃F,ItS z (fun c=>c=A\/c=D\/c=E\/c<hq.n) h F/\Own (fun c=>c=l\/ao M c) Q h F/\J (((zM γ.arcs.length).filter (insB γ c k)).length+((L.take j).flatMap (oH γ)).length) h F/\N 1=ptrTo A/\N 5=.func (.func 142) #[] #[ptrTo A,ptrTo l]/\N 17=M/\N 18=.int .i64 (L.length:Nat)/\N 19=.int .i64 j) (fun j=>L.length-j) ?_ 0 _ _ ?_
   . clear S s1 j1 o1 C j2 o2 sA jA W oB
     intro j ih N h ⟨hj',F,s,o,P,r1,r5,r17,r18,r19⟩
     have w:am .i64 ((j:Int)+1)=((j+1:Nat):Int):=by rw [wrap64]<;>omega
     by_cases hlt:j<L.length
     . have q:=ak _ (Xe hlt)
       have sl:au h 1 d7 M L:=sl_get V (fun c hc=>(o.2 c (.inr hc)).2.2)
       obtain⟨d,oo,x0,y0⟩:=sl.ix (kd:=.i64) fU hlt
       have R: ∀a,a<γ.arcs.length->i9 γ L[j] a=true->((dT γ c k).map fun(a:Nat)=>[Value.int .i64 (a:Nat)])[((zM γ.arcs.length).filter (insB γ c k)).length+((L.take j).flatMap (oH γ)).length+((zM a).filter (i9 γ L[j])).length]? =some [.int .i64 (a:Nat)]:=fun a I q=>by
        have U:(oH γ L[j])[((zM a).filter (i9 γ L[j])).length]? =some a:=uk q _ I
        unfold dT
        rw [X,Xt,Nat.add_assoc,XG (by omega),XL,flat_at hlt U];rfl
       have tk:((L.take (j+1)).flatMap (oH γ)).length=((L.take j).flatMap (oH γ)).length+((zM γ.arcs.length).filter (i9 γ L[j])).length:=by
        rw [zO hlt,Xh,Xa]
        simp [oH]
       generalize L[j]=b at q y0 R tk
       replace y0:h.load d oo 1=some [.int .i64 (b:Nat)]:=y0
       simp only [BS,LB,Nat.reduceLT,Nat.reduceEqDiff,FR,r1,r17,r18,r19,aq,hlt,x0,y0,s.load t e3 (.inl rfl)]
       refine step_ret (arcsT_ok s.ok y (u _ _ s) q) ?_
       rintro r h4 ⟨g4,bl,rfl,R4,nl⟩
       have S:=Si g4.ok
       simp only [BS,FR]
       refine ag aw S ?_;clear S;intro h T S aL
       simp only [BS,LB,Nat.reduceLT,Nat.reduceEqDiff]
       refine ax (av S (i:=0) rfl Tryz.t224.2.2.1 bU (Xx (lbt rfl)) ono) ?_
       clear S;rintro h5 ⟨S,_⟩
       simp only [LC]at S
       have g5:=g4.trans S.gr
       have s5:=s.gr g5
       have j5:=Y.gr _ _ _ _ P g5
       have K:=o.gr g5
       have R8:=S.row (b:=T) m0
       have Rl:=R4.gr S.gr
       have k4:=g4.n
       have oC:Own (fun c=>(c=l\/ao M c)\/c=T\/c=bl) h5 h5 F:=⟨Xz _,fun b q=>by
        rcases q with q|rfl|rfl
        . exact⟨Xb (K.2 b q).1 K.1,(K.2 b q).2.1,rfl⟩
        . exact⟨R8.lt S.ok,fun H=>by have:=s.lt _ H;omega,rfl⟩
        . exact⟨Rl.lt S.ok,fun H=>by have:=s.lt _ H;omega,rfl⟩⟩
       have l5:h5.load l 0 1=some [.func (.yield lb) #[] #[]]:=kp lB (K.2 l (.inl rfl)).2.2
       simp only [BS,LB,Nat.reduceLT,Nat.reduceEqDiff,r5]
       refine step_ret (won_ok t y hz Y (B:=fun c=>(c=l\/ao M c)\/c=T\/c=bl) (.inl (.inl rfl)) l5 (.inl rfl) e3 u (g:=147) (post:=#[ptrTo T]) (f:=i9 γ b) (fun h F s o a I=>worth3_ok s.ok (kp (R8.load1 (o:=0) rfl) (o.2 T (.inr (.inl rfl))).2.2) (Row.of_get (o.2 bl (.inr (.inr rfl))).2.2 Rl) I) R s5 oC j5) ?_
       rintro v h6 (⟨rfl,F6,s6,o6,j6⟩|⟨rfl,z6⟩)
       . simp only [BS,LB,Nat.reduceLT,Nat.reduceEqDiff,r19,w]
         refine ih (j+1) _ _ (by omega) ⟨by omega,F6,s6,⟨Xp K.1 o6.1,fun b q=>⟨(K.2 b q).1,(o6.2 b (.inl q)).2.1,(o6.2 b (.inl q)).2.2.trans (K.2 b q).2.2⟩⟩,by rw [tk,<-Nat.add_assoc];exact j6,by simp [aa,r1,ab],by simp [aa,r5],by simp [aa,r17],by simp [aa,r18],by simp [aa]⟩
       . simp only [BS,LB,Nat.reduceLT,Nat.reduceEqDiff]
         exact gy rfl ⟨rfl,.inr (.inl ⟨_,rfl,z6⟩)⟩
     . have:j=L.length:=by omega
       subst this
       simp only [BS,LB,Nat.reduceLT,r18,r19,aq,hlt]
       refine dZ (dV ⟨rfl,_,rfl,rfl,.inl ⟨_,F,rfl,?_⟩⟩)
       rw [Xr]at P
       rw [XA]
       unfold dT
       rw [Xa,X]
       exact P
   . exact⟨Xl _,F2,sA,oB,by simpa using jA,by simp [aa,cD,ab],by simp [aa,ab],by simp [aa],by simp [aa],by simp [aa]⟩
 . simp only [BS,LB,Nat.reduceLT,Nat.reduceEqDiff]
   exact gy rfl ⟨rfl,.inr (.inl ⟨_,rfl,z2⟩)⟩
end
end Go.Ab

end
section
namespace Go.Ab
open Go.Proofs
set_option maxRecDepth 10000
def Tryz.Fm:=aj t1<|aj t2<|aj t3<|aj t4<|aj t5<|aj t6<|aj Z1<|aj Z4<|aj t9<|aj t10<|aj t11<|aj t22<|aj t26<|aj t29<|aj t31<|aj t32<|aj Z0<|aj t42<|aj t92<|aj Z2<|aj Z5<|aj t152<|Z6
def OkB(e:Gra)(c:Nat->Nat)(b k i:Nat)(B:Nat->Nat):Prop:= ∀d a,a/8<b->(bitB B b d a=true↔(d<k/\a∈dT e c d)\/(d=k/\a∈(dT e c k).take i))
theorem OkB.zero{d:Gra}{c:Nat->Nat}{b:Nat}:OkB d c b 0 0 (fun _=>0):=fun e a _=>by simp [bitB]
theorem OkB.next{f:Gra}{c:Nat->Nat}{b k:Nat}{B:Nat->Nat}(o:OkB f c b k (dT f c k).length B):OkB f c b (k+1) 0 B:=fun g a h=>by
 rw [o g a h,Xr]
 simp only [List.take_zero,Xy,and_false,or_false]
 constructor
 . rintro(⟨i,d⟩|⟨rfl,d⟩)
   . exact⟨by omega,d⟩
   . exact⟨by omega,d⟩
 . rintro⟨i,d⟩
   by_cases e:g=k
   . subst e;exact .inr ⟨rfl,d⟩
   . exact .inl ⟨by omega,d⟩
theorem OkB.set{d:Gra}{c:Nat->Nat}{b k i:Nat}{B:Nat->Nat}(n:b=(d.arcs.length+7)/8)(o:OkB d c b k i B)(l:i<(dT d c k).length)(hlt:(dT d c k)[i]<d.arcs.length):OkB d c b k (i+1) (fd B (k*b+(dT d c k)[i]/8) (setB (B (k*b+(dT d c k)[i]/8)) ((dT d c k)[i]%8))):=fun j a m=>by
 rw [yh (by omega) (by omega),zO l]
 by_cases e:j=k/\a=(dT d c k)[i]
 . rw [if_pos e]
   obtain⟨rfl,e⟩:=e
   subst e
   exact⟨fun _=>.inr ⟨rfl,List.mem_append.2 (.inr (List.mem_singleton.2 rfl))⟩,fun _=>rfl⟩
 . rw [if_neg e,o j a m]
   simp only [XQ,Xs]
   constructor
   . rintro(h|⟨g,f⟩)
     . exact .inl h
     . exact .inr ⟨g,.inl f⟩
   . rintro(h|⟨g,f|f⟩)
     . exact .inl h
     . exact .inr ⟨g,f⟩
     . exact absurd ⟨g,f⟩ e
theorem wz{d:Gra}{c:Nat->Nat}{k a:Nat}(h:a∈dT d c k):a<d.arcs.length:=by
 unfold dT at h
 rcases List.mem_append.1 h with h|h
 . exact List.mem_range.1 (List.mem_filter.1 h).1
 . obtain⟨b,_,h⟩:=List.mem_flatMap.1 h
   exact List.mem_range.1 (List.mem_filter.1 h).1
theorem perm_db{c:Type}{x a b d:c}{l:List c}:List.Perm (x::([a,b]++(d::l))) ([d,x,a,b]++l):=by
 show List.Perm ([x,a,b]++d::l) (d::([x,a,b]++l))
 exact List.perm_middle
theorem wY{L:List (Nat×Ob)}{a:List Nat}:keys (L++cR a) []=L.map Prod.fst++a:=by
 simp [keys,cR,XH]
theorem ofB_ok {z:Hp} (ok:z.t.Sized z.n) {q:Gra} {nb mb bp cb:Nat} {m:List Int} {c:Nat->Nat} {M:Nat} (E:Good q) (hn:bF z nb (ptrTo bp) q) (x:im z mb (ptrTo cb) q.nodes m c) (hM:gx m+1=(M:Int)) (U:M<=100):
 Ret zB 28 [ptrTo bp,ptrTo cb] z fun r P=>Gr z P/\ ∃t f B,r=ptrTo t/\z.n<=t/\z.n<=f/\t≠f/\hU P t f M q.arcs.length ((q.arcs.length+7)/8) B/\OkB q c ((q.arcs.length+7)/8) M 0 B:=by
 have S:=Si ok
 have n1:=E.n1
 have n2:=E.n2
 have ak:=E.many
 have xl:=x.len
 have co: ∀{h},Gr z h->kx h (ptrTo cb) m (M:Int):=fun g=>.inr ⟨⟨_,(x.gr g).at0⟩,by rw [hM]⟩
 refine ac (n:=33) (rs:=[.tmp 4]) rfl Tryz.e28 rfl rfl rfl (lbt rfl) ?_
 simp only [BS,LB,Nat.reduceLT,Nat.reduceEqDiff]
 refine al (xI S.ok hn (co S.gr) n1 (by omega)) ?_
 intro h1 g1;replace S:=S.call g1
 simp only [BS,LB,Nat.reduceLT,Nat.reduceEqDiff,xl]
 refine al (vq S.ok (co S.gr)) ?_
 intro Q V;replace S:=S.call V
 simp only [BS,LB,Nat.reduceLT,Nat.reduceEqDiff]
 refine al (nQ S.ok (hn.gr S.gr)) ?_
 intro h3 g3;replace S:=S.call g3
 simp only [BS,LB,Nat.reduceLT,Nat.reduceEqDiff]
 refine step_ret (bmNew_ok S.ok U (by omega)) ?_
 rintro r A ⟨W,t,f,rfl,nf,a1,I,Y⟩
 have k3:=S.gr.n
 have a2:=S.ok
 have gq:=S.gr.trans W
 have kN:=W.n
 have gS:=S.gr
 clear S
 have S:St (· =f) A A [(f,.row _ 1)] []:=St.init1 W.ok (o:=.row _ 1) Y.b
 have zf:=Y.b.lt W.ok
 have zp:=Y.r.lt W.ok
 simp only [BS,Fm]
 refine ag aw S ?_;clear S;intro h u S aL
 simp only [BS,LB,Nat.reduceLT,Nat.reduceEqDiff]
 refine ax (av S (i:=0) rfl ?_ ?_ ?_ ono) ?_
 . exact(by simp only [Fm])
 . exact(by exact dh)
 . exact Xx (lbt rfl)
 clear S;rintro h ⟨S,mo⟩;clear mo;simp only [LC,ah,lay,Xv,Xw,Nat.reduceAdd]at S
 simp only [BS,LB,Nat.reduceLT,Nat.reduceEqDiff]
 have gO: ∀{h:Hp} {L:List (Nat×Ob)} {G:List GL},St (· =f) A h L G->Gr z h:=fun S=>(gq.fr.trans S.fr (fun b e=>.inr (by subst e;omega)):Mo NoM _ _).gr
 have kO: ∀{h:Hp} {L:List (Nat×Ob)} {G:List GL},St (· =f) A h L G->hU A t f M q.arcs.length ((q.arcs.length+7)/8) (fun _=>0)->Row h t [.int .i64 M,.int .i64 q.arcs.length,.int .i64 ((q.arcs.length+7)/8:Nat),.slice (some ⟨f,0,none⟩) (M*((q.arcs.length+7)/8)) (M*((q.arcs.length+7)/8))] 1:=fun S b=>Row.of_get (S.fr.get t zp I) b.r
 have hr:=fun {h:Hp} {L:List (Nat×Ob)} {G:List GL} (S:St (· =f) A h L G)=>kO S Y
 refine al (vq S.ok (co (gO S))) ?_
 intro h4 g4;replace S:=S.call g4
 simp only [BS]
 generalize C:(q.arcs.length+7)/8=l at*
 refine pk (fun(k:Nat) R d h=>k<=M/\ ∃p B,d=p.map pD/\St (· =f) A h ([(u,.row [ptrTo t] 1),(f,.row (fk (M*l) B) 1)]++cR p) []/\(∀j,B j<256)/\OkB q c l k 0 B/\R 0=ptrTo bp/\R 1=ptrTo cb/\R 5=ptrTo u/\R 18=.int .i64 (M:Nat)/\R 19=.int .i64 k) (fun k=>M-k) ?_ 0 _ _ _ ?_
 . clear S g4
   rintro k ih R d h ⟨hk,p,B,rfl,S,hB,oB,r0,r1,r5,r18,r19⟩
   have w:am .i64 ((k:Int)+1)=((k+1:Nat):Int):=by rw [wrap64]<;>omega
   by_cases hlt:k<M
   . simp only [BS,LB,Nat.reduceLT,Nat.reduceEqDiff,Fm,r18,r19,aq,hlt]
     refine ag aw S ?_;clear S;intro h D S a0
     simp only [BS,LB,Nat.reduceLT,Nat.reduceEqDiff]
     refine ax (av S (i:=0) rfl ?_ ?_ ?_ ono) ?_
     . exact(by simp only [Fm])
     . exact(by exact bZ)
     . exact Xx (lbt rfl)
     clear S;rintro h ⟨S,mo⟩;clear mo;simp only [LC,ah,lay,Xv,Xw,Nat.reduceAdd]at S
     simp only [BS,LB,Nat.reduceLT,Nat.reduceEqDiff,Fm,r0,r1,S.ld (b:=D) (o:=0) m0 rfl]
     refine step_ret (worth_ok S.ok (k:=k) dh) ?_
     rintro v hW ⟨gW,w3,w4,w5,rfl,n3,n4,n5,e3,e4,e5⟩
     have kk: ∀b∈[D,u,f]++p,z.n<=b/\b<w3/\b<w4/\b<w5/\b<hW.n:=fun b s=>by
      have hm:b∈keys ([(D,Ob.row [.int .i64 (k:Nat)] 1),(u,.row [ptrTo t] 1),(f,.row (fk (M*l) B) 1)]++cR p) []:=by rw [wY];exact s
      have h1:=S.key_lt hm
      have Q:=S.key_own hm
      have h3:=gW.n
      have h4:z.n<=b:=Q.elim (fun h=>by omega) (fun h=>by subst h;omega)
      omega
     replace S:=S.call gW
     have a3:=gW.n
     have Z:=gO S
     have zN:=S.fr.n
     have it:=worth1_it ok S.ok Z.keep Z.n E hn x e3 e4 e5
     simp only [BS]
     refine jv S (g:=141) (a:=#[]) (b:=#[ptrTo w3,ptrTo w4,ptrTo w5]) (by simp [cy,aa,ab]) rfl rfl ?_
     intro Q H J S' a4 a5 V
     obtain⟨X,hX,S'⟩: ∃X:fG,X=_/\St (· =f) A Q ([(J,.loop X),(H,.dfr),(D,.row [.int .i64 (k:Nat)] 1),(u,.row [ptrTo t] 1),(f,.row (fk (M*l) B) 1)]++cR p) []:=⟨_,rfl,S'⟩
     have hJ:Yld zB J (fun i P F=> ∃B,St (· =f) A P ([(J,.loop X),(H,.dfr),(D,.row [.int .i64 (k:Nat)] 1),(u,.row [ptrTo t] 1),(f,.row (fk (M*l) B) 1)]++cR p) []/\(∀j,B j<256)/\OkB q c l k i B/\F=[J,H,D,u,f]++p) (fun _ _=>False) ((dT q c k).map fun(a:Nat)=>[.int .i64 (a:Nat)]):=by
      refine⟨?_,?_,fun _ _ h=>h.elim,?_⟩
      . rintro i h F ⟨B,S,_,_,rfl⟩;exact⟨S.ok,fun b s=>S.key_lt (by rw [wY];exact s)⟩
      . rintro i h F P ⟨B,S,a,b,rfl⟩ gg;exact⟨B,S.call gg,a,b,rfl⟩
      . rintro i x hR F K ⟨B,S,hB,oB,rfl⟩
        have N:i<(dT q c k).length:=by
         have:=(List.getElem?_eq_some_iff.1 K).1
         simpa using this
        rw [Xt,Xj N]at K
        cases K
        have O:(dT q c k)[i]<q.arcs.length:=wz (Xe N)
        have ad:=oB.set C.symm N O
        generalize(dT q c k)[i]=a at O ad
        subst hX
        refine jx (S.get m0) (by rw [Tryz.e28];rfl) rfl ?_
        have S0:=S
        replace S:=S.base
        simp only [BS,LB,Nat.reduceLT,Nat.reduceEqDiff]
        refine iK S (i:=0) rfl rfl rfl rfl rfl ?_
        clear S;intro h S
        simp only [LC]at S
        simp only [BS,LB,Nat.reduceLT,Nat.reduceEqDiff,Fm,r5,S.ld (b:=D) (o:=0) m2 rfl,S.ld (b:=u) (o:=0) m3 rfl]
        have BA:hU h t f M q.arcs.length l B:=⟨hr (S0.rebase S),S.row (b:=f) m4,hB⟩
        refine step_ret (bSet_ok S.ok BA I hlt O U (by omega) C.symm) ?_
        rintro v h5 ⟨f5,rfl,B5⟩
        have S5:=S.call1 (i:=4) (o':=.row _ 1) rfl f5 B5.b
        simp only [List.set_cons_zero,List.set_cons_succ]at S5
        clear S
        simp only [BS]
        refine eZ S5 (i:=0) rfl ?_
        clear S5;intro h S
        simp only [LC]at S
        refine .inl ⟨rfl,_,⟨_,S0.rebase S,B5.lt,ad,rfl⟩,?_,fun c hc=>.inl hc⟩
        exact S.fr.mono fun b s=>by simpa [keys,cR,XH]using s
     refine gL (it J _ _ (fun _ _ h=>h) hJ Q ([J,H,D,u,f]++p) ?_ ⟨B,S',hB,oB,rfl⟩) fun o rc P y=>kC y ?_
     . have kn:=V.n
       refine⟨S'.ok,V.n,fun b s hd=>V.get b s,fun b s h=>?_,fun b s=>S'.key_lt (by simpa [keys,cR,XH]using s)⟩
       simp only [XQ,XF,Xy,or_false]at s
       obtain⟨h1,Q⟩:=h
       have K:b=J\/b=H\/b∈[D,u,f]++p:=by
        rcases s with(s|s|s)|s
        . exact .inl s
        . exact .inr (.inl s)
        . exact .inr (.inr (List.mem_append.2 (.inl (by simpa using s))))
        . exact .inr (.inr (List.mem_append.2 (.inr s)))
       rcases K with rfl|rfl|K
       . omega
       . omega
       . have:=kk b K
         omega
     . rintro F ⟨B1,T,ai,af,rfl⟩
       rw [XA]at af
       subst hX
       refine⟨_,T.get m0,XP,?_⟩
       replace T:=T.dead
       show Run _ _ _ _ _ _ _ _
       have T1:St (· =f) A _ ([(H,.dfr),(D,.row [.int .i64 (k:Nat)] 1),(u,.row [ptrTo t] 1),(f,.row (fk (M*l) B1) 1)]++cR p) []:=T
       have T':St (· =f) A _ ([(u,.row [ptrTo t] 1),(f,.row (fk (M*l) B1) 1)]++(H,.dfr)::cR p) []:=(T1.permL perm_db).drop1
       simp only [BS,LB,Nat.reduceLT,Nat.reduceEqDiff,r19,w]
       exact ih (k+1) _ _ _ (by omega) ⟨by omega,H::p,B1,rfl,T',ai,af.next,by simp [aa,r0,ab],by simp [aa,r1,ab],by simp [aa,r5,ab],by simp [aa,r18],by simp [aa]⟩
   . have:k=M:=by omega
     subst this
     have gE:=gO S
     have S0:=S
     simp only [LC]at S
     simp only [BS,LB,Nat.reduceLT,Nat.reduceEqDiff,Fm,r5,r18,r19,aq,hlt,S.ld (b:=u) (o:=0) m0 rfl]
     refine gP (ku p _ (L:=[(u,_),(f,_)]) (S0.permL List.perm_append_comm) fun h4 S4=>?_)
     refine⟨rfl,(qd (by decide)).2 (jB.2 ?_)⟩
     refine⟨gO S4,t,f,B,?_,by omega,by omega,I,⟨hr S4,S4.row m1,hB⟩,oB⟩
     exact rfl
 . exact⟨Xl _,[],_,rfl,S,Y.lt,OkB.zero,by simp [aa,cD,ab],by simp [aa,cD,ab],by simp [aa,ab],by simp [aa],by simp [aa]⟩
def Tryz.F1e:=aj t1<|aj t2<|aj t3<|aj t4<|aj t5<|aj t9<|aj t22<|aj t32<|Z6
def byB(n:Nat)(B:Nat->Nat):Bs:=(zM n).map fun j=>UInt8.ofNat (B j)
theorem byB_cells{n:Nat}{B:Nat->Nat}(h: ∀j,B j<256):fk n B=aT (byB n B):=by
 unfold fk aT byB
 rw [List.map_map]
 refine XW fun j _=>?_
 simp [Nat.mod_eq_of_lt (h j)]
def bI(l:List (List Int))(i:Nat):List Int:=l.getD i []
def np(h:Hp)(p:Value)(N:Nat)(T:Tab):Prop:=(∃m,TabAt h m p N T.l (bI T.to) (bI T.fr))/\TabL N T
theorem np.gr{h a:Hp}{p:Value}{N:Nat}{T:Tab}(t:np h p N T)(g:Gr h a):np a p N T:=⟨by obtain⟨m,x⟩:=t.1;exact⟨m,x.gr g⟩,t.2⟩
def ib(h:Hp)(e f:Value)(c:Gra)(m:List Int)(F:Bs):Prop:= ∃k d g b a B,gG h k e m/\m.length=c.nodes/\f=ptrTo d/\gx m+1=((b:Nat):Int)/\hU h d g b c.arcs.length a B/\F=byB (b*a) B/\(∀x∈m,0<=x/\x<256)/\ ¬uu m/\a=(c.arcs.length+7)/8/\Tz c.arcs.length a B
theorem ib.gr{h n:Hp}{o p:Value}{q:Gra}{m:List Int}{F:Bs}(c:ib h o p q m F)(g:Gr h n):ib n o p q m F:=by
 obtain⟨k,r,s,j,l,B,a,b,c,d,e,f,i⟩:=c
 exact⟨k,r,s,j,l,B,a.gr g,b,c,d,e.gr g,f,i⟩
def TabX(h:Hp)(p:Value)(N:Nat):Option Tab->Prop
 |none=>p=.pointer none
 |some T=>np h p N T
def CelX(h:Hp)(a b:Value)(c:Gra):Option (List Int×Bs)->Prop
 |none=>a=.pointer none/\b=.pointer none
 |some (m,F)=>ib h a b c m F
theorem TabX.gr{h a:Hp}{p:Value}{N:Nat}{T:Option Tab}(t:TabX h p N T)(g:Gr h a):TabX a p N T:=by
 cases T with
 |none=>exact t
 |some T=>exact np.gr t g
theorem CelX.gr{h a:Hp}{b d:Value}{e:Gra}{C:Option (List Int×Bs)}(t:CelX h b d e C)(g:Gr h a):CelX a b d e C:=by
 cases C with
 |none=>exact t
 |some c=>exact ib.gr t g
def ImC(h:Hp)(a b c d:Value)(I:Img):Prop:=(∃e,bF h e a I.g)/\eE I.g/\TabX h b I.g.nodes I.T/\CelX h c d I.g I.C
theorem ImC.gr{h a:Hp}{b c d e:Value}{I:Img}(i:ImC h b c d e I)(g:Gr h a):ImC a b c d e I:=⟨by obtain⟨f,n⟩:=i.1;exact⟨f,n.gr g⟩,i.2.1,i.2.2.1.gr g,i.2.2.2.gr g⟩
def iz(h:Hp)(b:Nat)(I:Img):Prop:= ∃a c d e,Row h b [a,c,d,e] 1/\ImC h a c d e I
theorem iz.gr{h a:Hp}{b:Nat}{I:Img}(i:iz h b I)(g:Gr h a):iz a b I:=by
 obtain⟨d,e,f,j,r,c⟩:=i;exact⟨d,e,f,j,r.gr g,c.gr g⟩
theorem np.ptr{h:Hp}{p:Value}{N:Nat}{T:Tab}(t:np h p N T): ∃b,p=ptrTo b:=by
 obtain⟨⟨m,t⟩,_⟩:=t;obtain⟨b,_,_,_,e,_⟩:=t.ex;exact⟨b,e⟩
theorem ib.ptr{h:Hp}{a d:Value}{i:Gra}{m:List Int}{F:Bs}(c:ib h a d i m F): ∃b c,a=ptrTo b/\d=ptrTo c:=by
 obtain⟨k,j,n,f,g,B,⟨b,_,e,_⟩,_,l,_⟩:=c;exact⟨b,j,e,l⟩
theorem bF.ptr{h:Hp}{a:Nat}{p:Value}{c:Gra}(n:bF h a p c): ∃b,p=ptrTo b:=by
 obtain⟨b,_,_,_,_,_,e,_⟩:=n.ex;exact⟨b,e⟩
theorem yf{d:Hp}(i:d.t.Sized d.n){h f a e c:Nat}{B:Nat->Nat}(b:hU d h f a e c B):bC zB 50 [ptrTo h] d (sv (byB (a*c) B)):=by
 have S:=Si i
 have j:=b.r.load1 (o:=3) rfl
 have g:(byB (a*c) B).length=a*c:=by simp [byB]
 have k:BySl d (.slice (some ⟨f,0,none⟩) (a*c) (a*c)) (byB (a*c) B):=.inr ⟨f,0,none,a*c,by rw [g],by rw [g];exact Xz _,by
  rw [g,byF,<-byB_cells b.lt,b.b.load (by rw [pg];omega),List.drop_zero,Xk,Xq (by rw [pg];omega)]⟩
 refine ac (n:=10) (rs:=[.tmp 2]) rfl Tryz.e50 rfl rfl rfl (lbt rfl) ?_
 simp only [BS,LB,cE,aN,ae,Nat.reduceLT,Nat.reduceEqDiff,F1e,j,yP k]
 exact S.gr
theorem exTo{b:Hp}(d:b.t.Sized b.n){a:Gra}(c:Good a){e:Value}{f:Nat}(g:bF b f e a){s:Nat}(h:s<a.nodes)(v:Nat):IsD (seen a.arcs Arc.t Arc.s) s v (dOf (seen a.arcs Arc.t Arc.s) s v):=by
 obtain⟨_,_,_,_,_,_,_,D,_,_,_,_,_,_,_,i,_⟩:=qt d c g h
 exact(ui (i v)).2
theorem exFrom{b:Hp}(d:b.t.Sized b.n){a:Gra}(c:Good a){e:Value}{f:Nat}(g:bF b f e a){s:Nat}(h:s<a.nodes)(v:Nat):IsD (seen a.arcs Arc.s Arc.t) s v (dOf (seen a.arcs Arc.s Arc.t) s v):=by
 obtain⟨_,_,_,_,_,_,_,D,_,_,_,_,_,_,_,i,_⟩:=re d c g h
 exact(ui (i v)).2
theorem xX(B:List Arc)(N s:Nat):(rowD B N s).length=N:=by simp [rowD]
theorem bSetG_ok{k:Hp}(u:k.t.Sized k.n){l p b a c:Nat}{B:Nat->Nat}(m:hU k l p b a c B)(q:l≠p){r i:Nat}(d:b<=100)(e:a<=1000)(j:c=(a+7)/8)(x:Bool):
 Ret zB 32 [ptrTo l,.int .i64 (r:Nat),.int .i64 (i:Nat),.bool x] k fun v w=>Mo (· =p) k w/\ ∃y,hU w l p b a c y/\(Tz a c B->Tz a c y):=by
 by_cases o:r<b/\i<a
 . exact bSetZ_ok u m q o.1 o.2 d e j x
 have D: ∀{h:Hp} {f:Value},Gr k h->Fl f->bC zB 88 [ptrTo l,.int .i64 (r:Nat),.int .i64 (i:Nat),f] h (.bool false):=by
  intro h f g G
  have S:=Si g.ok
  have s:=m.gr g
  have A: ¬(r:Int)<0:=by omega
  have E: ¬(i:Int)<0:=by omega
  by_cases H:r<b
  . have t: ¬(b:Int)<=(r:Int):=by omega
    have F:(a:Int)<=(i:Int):=by omega
    refine ac (n:=46) (rs:=[.tmp 8]) rfl Tryz.e88 rfl rfl rfl (lbt rfl) ?_
    simp only [BS,LB,Nat.reduceLT,Nat.reduceEqDiff,A]
    refine al (jR S.ok s.bits) ?_;intro h g;replace S:=S.call g;clear g
    simp only [BS,LB,Nat.reduceLT,Nat.reduceEqDiff,t,E]
    refine al (mi S.ok (s.gr S.gr).bits) ?_;intro h g;replace S:=S.call g;clear g
    simp only [BS,LB,ae,Nat.reduceLT,Nat.reduceEqDiff,F]
    exact S.gr
  . have t:(b:Int)<=(r:Int):=by omega
    refine ac (n:=46) (rs:=[.tmp 8]) rfl Tryz.e88 rfl rfl rfl (lbt rfl) ?_
    simp only [BS,LB,Nat.reduceLT,Nat.reduceEqDiff,A]
    refine al (jR S.ok s.bits) ?_;intro h g;replace S:=S.call g;clear g
    simp only [BS,LB,ae,Nat.reduceLT,Nat.reduceEqDiff,t]
    exact S.gr
 have S:=Si u
 refine ac (n:=14) (rs:=[.tmp 8]) rfl Tryz.e32 rfl rfl rfl (lbt rfl) ?_
 simp only [BS,Nat.reduceLT]
 refine ag (cL (by exact oD)) S ?_;clear S;intro h I S C
 simp only [BS,LB,Nat.reduceLT,Nat.reduceEqDiff]
 refine al (D S.gr gD) ?_;intro h g;replace S:=S.call g;clear g
 simp only [BS,LB,Nat.reduceLT,Nat.reduceEqDiff]
 exact⟨S.gr.fr,B,m.gr S.gr,fun z=>z⟩
theorem eR.congr{h:Hp}{m n:Nat}{v:Value}{R f:Nat->List Int}(r:eR h m v n R)(e: ∀i,i<n->R i=f i):eR h m v n f:=by
 obtain⟨j,a,b,c,d⟩:=r
 exact⟨j,a,b,c,fun i w g=>by
  have:=(List.getElem?_eq_some_iff.1 g).1
  rw [<-e i (by omega)];exact d i w g⟩
theorem TabAt.congr{h:Hp}{m N:Nat}{p:Value}{l:List Int}{R Q a c:Nat->List Int}(t:TabAt h m p N l R Q)(d: ∀i,i<l.length->R i=a i)(e: ∀i,i<l.length->Q i=c i):TabAt h m p N l a c:=by
 obtain⟨b,f,g,j,k,n,o,q,r,s,u⟩:=t.ex
 exact⟨b,f,g,j,k,n,o,q.congr d,r.congr e,s,u⟩
def jM(l:List Int)(R Q:Nat->List Int):Tab:=⟨l,(zM l.length).map R,(zM l.length).map Q⟩
theorem jO{n i:Nat}{R:Nat->List Int}(h:i<n):bI ((zM n).map R) i=R i:=by
 unfold bI;simp [Xf,h]
theorem vp{h:Hp}{m N:Nat}{p:Value}{l:List Int}{R Q:Nat->List Int}(t:TabAt h m p N l R Q):TabAt h m p N (jM l R Q).l (bI (jM l R Q).to) (bI (jM l R Q).fr):=
 t.congr (fun i a=>(jO a).symm) (fun i a=>(jO a).symm)
theorem tabL_L{N:Nat}{l:List Int}{R Q:Nat->List Int}(d:gm N l)(k:N<=1000)(c:1<=l.length)(e: ∀i,i<l.length->eg N (R i))(f: ∀i,i<l.length->eg N (Q i)):TabL N (jM l R Q):=by
 have a: ∀{F:Nat->List Int},(∀i,i<l.length->eg N (F i))-> ∀r∈(zM l.length).map F,r.length=N/\ ∀x∈r,0<=x/\x<=72057594037927936:=fun {F} g r h=>by
  obtain⟨i,b,rfl⟩:=List.mem_map.1 h
  exact g i (List.mem_range.1 b)
 exact⟨c,d.1,by simp [jM],by simp [jM],a e,a f,fun x j=>by
  obtain⟨i,b,rfl⟩:=XV (l:=l) j
  have:=d.2 i b
  simp only [Xf,Xj b,Option.getD_some]at this
  have c:=this.1
  have m:=this.2.1
  exact⟨c,by omega⟩⟩
theorem ownRows{c:Hp}(e:c.t.Sized c.n){a:Gra}(b:Good a){g:Value}{j:Nat}(f:bF c j g a){l:List Int}(k:gm a.nodes l){i:Nat}(m:i<l.length):eg a.nodes (toR a l i)/\eg a.nodes (frR a l i):=by
 have h:=k.2 i m
 exact⟨⟨xX _ _ _,fun x d=>yV (fun v=>(exTo e b f (by omega) v).le) d⟩,xX _ _ _,fun x d=>yV (fun v=>(exFrom e b f (by omega) v).le) d⟩
def Tryz.F9:=aj t1<|aj t2<|aj t3<|aj t4<|aj t5<|aj t22<|aj t27<|aj t29<|aj t30<|aj t31<|aj t32<|aj Z12<|aj Z0<|aj t39<|aj t42<|aj t92<|aj Z2<|aj Z8<|aj Z5<|Z6
theorem fits_im{a:Hp}(i:a.t.Sized a.n){d e f:Value}{b:Gra}{j:Nat}{m:List Int}{F:Bs}(l:bF a j d b)(n:1<=b.nodes)(s:b.nodes<1000000)(c:ib a e f b m F):bC zB 62 [d,e,f] a (.bool true):=by
 obtain⟨k,t,u,g,h,B,o,p,rfl,q,r,_⟩:=c
 have:=zI i l (.inr ⟨⟨k,o⟩,rfl⟩) r.bits n (by omega)
 simpa [p,q]using this
theorem tw{f:Hp}(G:f.t.Sized f.n){b:Nat}{I:Img}(i:iz f b I):bC zB 22 [ptrTo b] f (.bool true):=by
 have S:=Si G
 obtain⟨U,H,J,K,r,⟨V,x⟩,y,j,a⟩:=i
 obtain⟨W,rfl⟩:=x.ptr
 have L:=r.lt G
 have c:=r.load1 (o:=0) rfl
 have d:=r.load1 (o:=1) rfl
 have l:=r.load1 (o:=2) rfl
 have s:=r.load1 (o:=3) rfl
 have M:=y.n1
 have X:=y.n2
 cases N:I.T with
 | none=>
   rw [N]at j
   have j:H=.pointer none:=j
   subst j
   cases z:I.C with
   | none=>
     rw [z]at a
     obtain⟨rfl,rfl⟩:=a
     refine ac (n:=72) (rs:=[.tmp 2]) rfl XY rfl rfl rfl (lbt rfl) ?_
     simp only [BS,LB,Nat.reduceLT,Nat.reduceEqDiff,F9,c]
     refine ar (ay rfl) (q:=0) (ps:=[(10,14)]) (by kernel_rfl) ?_
     simp only [BS,LB,cls,Nat.reduceLT,Nat.reduceEqDiff,Nat.reduceAdd,Nat.reducePow,Nat.reduceDiv,Nat.reduceMod,Nat.reduceLeDiff,F9,d,l,s]
     refine⟨by simp only [bQ,bW,bE,cd,bM,ne_eq,not_false_eq_true,ce,cB,bO,bN,cy,dr,bK,Nat.reduceLT,Nat.reduceEqDiff,reduceIte,Xo,ab,cD];rfl,?_⟩
     refine ar (ay rfl) (q:=0) (ps:=[]) (by kernel_rfl) ?_
     simp only [BS,LB,cls,ae,Nat.reduceLT,Nat.reduceEqDiff,Nat.reduceAdd,Nat.reducePow,Nat.reduceDiv,Nat.reduceMod,Nat.reduceLeDiff]
     exact S.gr
   | some D=>
     obtain⟨m,F⟩:=D
     rw [z]at a
     have a:ib f J K I.g m F:=a
     obtain⟨Q,R,rfl,rfl⟩:=a.ptr
     refine ac (n:=72) (rs:=[.tmp 2]) rfl XY rfl rfl rfl (lbt rfl) ?_
     simp only [BS,LB,Nat.reduceLT,Nat.reduceEqDiff,F9,c]
     refine ar (ay rfl) (q:=0) (ps:=[(10,14)]) (by kernel_rfl) ?_
     simp only [BS,LB,cls,Nat.reduceLT,Nat.reduceEqDiff,Nat.reduceAdd,Nat.reducePow,Nat.reduceDiv,Nat.reduceMod,Nat.reduceLeDiff,F9,d,l]
     refine⟨by simp only [bQ,bW,bE,cd,bM,ne_eq,not_false_eq_true,ce,cB,bO,bN,cy,dr,bK,Nat.reduceLT,Nat.reduceEqDiff,reduceIte,Xo,ab,cD];rfl,?_⟩
     refine ar (ay rfl) (q:=0) (ps:=[]) (by kernel_rfl) ?_
     simp only [BS,LB,cls,Nat.reduceLT,Nat.reduceEqDiff,Nat.reduceAdd,Nat.reducePow,Nat.reduceDiv,Nat.reduceMod,Nat.reduceLeDiff,F9,c,l,s]
     refine fP (fits_im S.ok x M (by omega) a) ?_
     intro h g
     have t:=aK g L
     replace S:=S.call g
     simp only [BS,LB,cls,ae,Nat.reduceLT,Nat.reduceEqDiff,Nat.reduceAdd,Nat.reducePow,Nat.reduceDiv,Nat.reduceMod,Nat.reduceLeDiff]
     exact S.gr
 | some T=>
   rw [N]at j
   have j:np f H I.g.nodes T:=j
   obtain⟨Y,rfl⟩:=j.ptr
   obtain⟨⟨mt,B⟩,O⟩:=j
   have t1:=O.l1
   have t2:=O.l2
   have P:(0:Int)<(T.l.length:Int):=by omega
   have q: ∀{u w C:Hp},Gr f u->Gr u w->Gr w C->leaves f u b=true/\leaves u w b=true/\leaves w C b=true:=fun e k p=>by
    have:=e.n
    have:=k.n
    exact⟨aK e L,aK k (by omega),aK p (by omega)⟩
   cases z:I.C with
   | none=>
     rw [z]at a
     obtain⟨rfl,rfl⟩:=a
     refine ac (n:=72) (rs:=[.tmp 2]) rfl XY rfl rfl rfl (lbt rfl) ?_
     simp only [BS,LB,Nat.reduceLT,Nat.reduceEqDiff,F9,c]
     refine ar (ay rfl) (q:=0) (ps:=[(10,14)]) (by kernel_rfl) ?_
     simp only [BS,LB,cls,Nat.reduceLT,Nat.reduceEqDiff,Nat.reduceAdd,Nat.reducePow,Nat.reduceDiv,Nat.reduceMod,Nat.reduceLeDiff,F9,d]
     refine fP (sG S.ok B) ?_
     intro u e
     replace S:=S.call e
     simp only [BS,LB,cls,Nat.reduceLT,Nat.reduceEqDiff,Nat.reduceAdd,Nat.reducePow,Nat.reduceDiv,Nat.reduceMod,Nat.reduceLeDiff,F9,e.load c]
     refine fP (dI S.ok (x.gr S.gr)) ?_
     intro w k
     replace S:=S.call k
     simp only [BS,LB,cls,Nat.reduceLT,Nat.reduceEqDiff,Nat.reduceAdd,Nat.reducePow,Nat.reduceDiv,Nat.reduceMod,Nat.reduceLeDiff,F9,S.gr.load d]
     refine c6 (jP S.ok (B.gr S.gr) (by omega)) ?_
     rintro v C ⟨p,E,_⟩
     obtain⟨t,A,e3⟩:=q e k p
     replace S:=S.call p
     simp only [BS,LB,cls,Nat.reduceLT,Nat.reduceEqDiff,Nat.reduceAdd,Nat.reducePow,Nat.reduceDiv,Nat.reduceMod,Nat.reduceLeDiff,F9,E.lenq,P,S.gr.load c,S.gr.load d,S.gr.load l,S.gr.load s]
     refine⟨by simp only [bQ,bW,bE,cd,bM,ne_eq,not_false_eq_true,ce,cB,bO,bN,cy,dr,bK,Nat.reduceLT,Nat.reduceEqDiff,reduceIte,Xo,ab,cD,bJ t,aQ t,bJ A,aQ A,bJ e3,aQ e3],?_⟩
     refine ar (ay rfl) (q:=0) (ps:=[]) (by kernel_rfl) ?_
     simp only [BS,LB,cls,ae,Nat.reduceLT,Nat.reduceEqDiff,Nat.reduceAdd,Nat.reducePow,Nat.reduceDiv,Nat.reduceMod,Nat.reduceLeDiff,S.gr.load c,S.gr.load d,S.gr.load l,S.gr.load s]
     exact S.gr
   | some D=>
     obtain⟨m,F⟩:=D
     rw [z]at a
     have a:ib f J K I.g m F:=a
     obtain⟨Q,R,rfl,rfl⟩:=a.ptr
     refine ac (n:=72) (rs:=[.tmp 2]) rfl XY rfl rfl rfl (lbt rfl) ?_
     simp only [BS,LB,Nat.reduceLT,Nat.reduceEqDiff,F9,c]
     refine ar (ay rfl) (q:=0) (ps:=[(10,14)]) (by kernel_rfl) ?_
     simp only [BS,LB,cls,Nat.reduceLT,Nat.reduceEqDiff,Nat.reduceAdd,Nat.reducePow,Nat.reduceDiv,Nat.reduceMod,Nat.reduceLeDiff,F9,d]
     refine fP (sG S.ok B) ?_
     intro u e
     replace S:=S.call e
     simp only [BS,LB,cls,Nat.reduceLT,Nat.reduceEqDiff,Nat.reduceAdd,Nat.reducePow,Nat.reduceDiv,Nat.reduceMod,Nat.reduceLeDiff,F9,e.load c]
     refine fP (dI S.ok (x.gr S.gr)) ?_
     intro w k
     replace S:=S.call k
     simp only [BS,LB,cls,Nat.reduceLT,Nat.reduceEqDiff,Nat.reduceAdd,Nat.reducePow,Nat.reduceDiv,Nat.reduceMod,Nat.reduceLeDiff,F9,S.gr.load d]
     refine c6 (jP S.ok (B.gr S.gr) (by omega)) ?_
     rintro v C ⟨p,E,_⟩
     obtain⟨t,A,e3⟩:=q e k p
     replace S:=S.call p
     simp only [BS,LB,cls,Nat.reduceLT,Nat.reduceEqDiff,Nat.reduceAdd,Nat.reducePow,Nat.reduceDiv,Nat.reduceMod,Nat.reduceLeDiff,F9,E.lenq,P,S.gr.load c,S.gr.load d,S.gr.load l,S.gr.load s]
     refine⟨by simp only [bQ,bW,bE,cd,bM,ne_eq,not_false_eq_true,ce,cB,bO,bN,cy,dr,bK,Nat.reduceLT,Nat.reduceEqDiff,reduceIte,Xo,ab,cD,bJ t,aQ t,bJ A,aQ A,bJ e3,aQ e3],?_⟩
     refine ar (ay rfl) (q:=0) (ps:=[]) (by kernel_rfl) ?_
     simp only [BS,LB,cls,Nat.reduceLT,Nat.reduceEqDiff,Nat.reduceAdd,Nat.reducePow,Nat.reduceDiv,Nat.reduceMod,Nat.reduceLeDiff,F9,S.gr.load c,S.gr.load d,S.gr.load l,S.gr.load s]
     have Z:=S.gr.n
     refine fP (fits_im S.ok (x.gr S.gr) M (by omega) (a.gr S.gr)) ?_
     intro h g
     have e4:=aK g (show b<_ by omega)
     replace S:=S.call g
     simp only [BS,LB,cls,ae,Nat.reduceLT,Nat.reduceEqDiff,Nat.reduceAdd,Nat.reducePow,Nat.reduceDiv,Nat.reduceMod,Nat.reduceLeDiff]
     exact S.gr
def Tryz.Fi:=aj t1<|aj t2<|aj t3<|aj t4<|aj t5<|aj t6<|aj Z1<|aj Z4<|aj t9<|aj t10<|aj t11<|aj t12<|aj Z7<|aj Z13<|aj t22<|aj t23<|aj t27<|aj t29<|aj t30<|aj t31<|aj t32<|aj Z12<|aj t35<|aj Z0<|aj Z3<|aj t76<|aj t92<|aj Z2<|aj Z8<|aj t120<|aj Z5<|aj Z6<|aj Z10<|t196
theorem graphS_ok{C:Hp}(Y:C.t.Sized C.n){b:Nat}{I:Img}(i:iz C b I):Ret zB 102 [ptrTo b] C fun r Z=>Gr C Z/\r=sv (ie I.g):=by
 have S:=Si Y
 obtain⟨pn,pt,pc,pf,r,⟨nb,H⟩,l,_,_⟩:=i
 obtain⟨bn,rfl⟩:=H.ptr
 have l0:=r.load1 (o:=0) rfl
 obtain⟨d,_,_⟩:=I
 simp only []at H l
 have n2:=l.n2
 have Q:=l.many
 have lX:=l.lX
 have lY:=l.lY
 refine ac (n:=65) (rs:=[.tmp 2]) rfl Tryz.e102 rfl rfl rfl (lbt rfl) ?_
 simp only [BS,LB]
 refine step_ret (mX S) ?_
 rintro _ h ⟨t,rfl,S⟩
 simp only [BS,LB,Nat.reduceLT,Nat.reduceEqDiff,Fi,S.gr.load l0]
 have kb:=S.key_lt (b:=t) (by simp [keys])
 refine step_ret (wD S.ok l (H.gr S.gr)) ?_
 rintro _ J ⟨g,K,L,E,rfl,B,hz,_⟩
 replace S:=S.call g
 have fx:=B.X.fl
 have fy:=B.Y.fl
 have fa:=B.A.fl
 have S0:=S
 replace S:=S.base
 have R: ∀{v:Hp},Mo (· ∈[t]) J v->cJ v K L E d:=fun f=>B.mo f (fun c hc e=>by simp only [Xs]at e;have:=hz c hc;omega)
 simp only [BS,Fi,fW]
 refine ag aw S ?_;clear S;intro h u S T
 simp only [BS,LB,Nat.reduceLT,Nat.reduceEqDiff]
 refine ax (S.store (i:=0) rfl Tryz.t37.2.1 (by intro x e;cases e) rfl (by simp only [ah,XE,XK,fx.2.1,fy.2.1,fa.2.1,Xo];rfl) (lbt rfl) ono) ?_
 clear S;rintro h ⟨S,_⟩
 simp only [LC,ah,lay,Xv,Xw,Nat.reduceAdd]at S
 have wn:=cV (k:=.u32) rfl (n:=d.nodes) (by simp only [pw];omega)
 have wa:=cV (k:=.u32) rfl (n:=d.arcs.length) (by simp only [pw];omega)
 simp only [BS,LB,cE,aN,cM,Nat.reduceLT,Nat.reduceEqDiff,Fi,B.A.lenq,wn,wa,S.ld (b:=u) (o:=0) m0 rfl,S.ld (b:=u) (o:=3) m0 rfl]
 refine ag (bj (by exact Tryz.t196.1) (by exact XO) (by decide) (by rfl)) S ?_;clear S;intro h U S y;simp only [LC,aR,bo,ah,Nat.reduceMul,Nat.reduceAdd,Xi,Xg,Xk,Xm]at S
 obtain⟨S,z,A⟩:=S.bsl (kd:=.u32) (xs:=[(d.nodes:Int),(d.arcs.length:Int)])
 simp only [BS,LB,Nat.reduceLT,Nat.reduceEqDiff]
 refine step_ret (p9 S (i:=1) (j:=0) rfl rfl z A (by simp)) ?_
 clear S z A;rintro _ h ⟨m,S⟩
 simp only [LC,Xc,Xd]at S
 rw [fj (by omega),fj (by omega)]at S;try rw [List.nil_append]at S
 simp only [BS,LB,Nat.reduceLT,Nat.reduceEqDiff,Fi,S.ld (b:=u) (o:=0) m0 rfl]
 have lz:(d.X.zip d.Y).length=d.nodes:=by rw [List.length_zip];omega
 have lk: ∀k,((d.X.zip d.Y).take k).length<=300:=fun k=>by rw [Xu];omega
 refine aD (fun(k:Nat) p v=>k<=d.nodes/\ ∃m,St (· ∈keys [(t,Ob.row [.slice none 0 0] 1)] [(.slice none 0 0,1,aT [])]) J v [(u,.row [.int .i64 d.nodes,K,L,E] 1),(t,.row [m] 1)] [(m,1,aT (aJ 4 d.nodes++aJ 4 d.arcs.length++((d.X.zip d.Y).take k).flatMap xyB))]/\p 3=ptrTo t/\p 4=ptrTo u/\p 25=.int .i64 d.nodes/\p 26=.int .i64 k) (fun k=>d.nodes-k) ?_ 0 _ _ ⟨Xl _,m,by simpa using S,by simp [aa,ab],by simp [aa,ab],by simp [aa],by simp [aa]⟩
 clear S
 intro k F p v ⟨hk,m,S,r3,r4,r25,r26⟩
 have w:am .i64 ((k:Int)+1)=((k+1:Nat):Int):=by rw [wrap64]<;>omega
 have s:=R S.fr
 by_cases hlt:k<d.nodes
 . obtain⟨c1,o1,M,G⟩:=s.X.ix (kd:=.i64) (aM .i64) (i:=k) (by omega)
   obtain⟨c2,o2,i2,d2⟩:=s.Y.ix (kd:=.i64) (aM .i64) (i:=k) (by omega)
   have N:k<(d.X.zip d.Y).length:=by omega
   have D:(d.X.zip d.Y).take (k+1)=(d.X.zip d.Y).take k++[(d.X[k],d.Y[k])]:=by rw [zO N,List.getElem_zip]
   have tb:(d.X.zip d.Y).take (k+1)=(d.X.zip d.Y).take k++[(d.X[k],d.Y[k])]:=D
   have bl:=lk k
   simp only [BS,LB,Nat.reduceLT,Nat.reduceEqDiff,r25,r26,aq,hlt]
   refine ar (ay rfl) (q:=2048) (ps:=[]) (by kernel_rfl) ?_
   simp only [BS,LB,cls,Nat.reduceLT,Nat.reduceEqDiff,Nat.reduceAdd,Nat.reducePow,Nat.reduceDiv,Nat.reduceMod,Nat.reduceLeDiff,Fi,r3,r4,M,i2,G,d2,encI,S.ld (b:=u) (o:=1) m0 rfl,S.ld (b:=u) (o:=2) m0 rfl]
   refine fe (bj (by exact Tryz.t23.1) (by exact Tryz.e2E) (by decide) (by rfl)) S ?_;clear S;intro h U S y V;simp only [LC,aR,bo,ah,Nat.reduceMul,Nat.reduceAdd,Xi,Xg,Xk,Xm]at S
   obtain⟨S,z,A⟩:=S.bsl (kd:=.i64) (xs:=[d.X[k],d.Y[k]])
   simp only [BS,LB,cls,Nat.reduceLT,Nat.reduceEqDiff,Nat.reduceAdd,Nat.reducePow,Nat.reduceDiv,Nat.reduceMod,Nat.reduceLeDiff]
   refine c6 (vg S (i:=1) (j:=0) rfl rfl z A (by rw [Xa,Xa,aF,aF,dp oE];simp;omega)) ?_
   clear S z A;rintro _ h ⟨m,S⟩
   simp only [LC,Xc,Xd]at S
   rw [Xn,show((d.X.zip d.Y).take k).flatMap xyB++(aJ 8 (u64 d.X[k])++aJ 8 (u64 d.Y[k]))=((d.X.zip d.Y).take (k+1)).flatMap xyB by rw [D,Xh];simp [xyB,put8]]at S
   simp only [BS,LB,Nat.reduceLT,Nat.reduceEqDiff,Nat.reduceAdd,r26,w]
   exact F (k+1) _ _ (by omega) ⟨by omega,m,S,by simp [aa,r3],by simp [aa,r4],by simp [aa,r25],by simp [aa]⟩
 . have:k=d.nodes:=by omega
   subst this
   rw [Xq (by omega)]at S
   generalize W:aJ 4 d.nodes++aJ 4 d.arcs.length++(d.X.zip d.Y).flatMap xyB=P at S
   have lP:P.length<=5000:=by rw [<-W,Xa,Xa,aF,aF,dp oE,lz];omega
   simp only [BS,LB,Nat.reduceLT,Nat.reduceEqDiff,Fi,r4,r25,r26,aq,hlt,B.A.lenq,S.ld (b:=u) (o:=3) m0 rfl]
   refine aD (fun(k:Nat) p v=>k<=d.arcs.length/\ ∃m,St (· ∈keys [(t,Ob.row [.slice none 0 0] 1)] [(.slice none 0 0,1,aT [])]) J v [(u,.row [.int .i64 d.nodes,K,L,E] 1),(t,.row [m] 1)] [(m,1,aT (P++(d.arcs.take k).flatMap iL))]/\p 3=ptrTo t/\p 44=E/\p 45=.int .i64 d.arcs.length/\p 46=.int .i64 k) (fun k=>d.arcs.length-k) ?_ 0 _ _ ⟨Xl _,m,by simpa using S,by simp [aa,r3],by simp [aa],by simp [aa],by simp [aa]⟩
   clear S s r3 r4 r25 r26 F w
   intro k F p v ⟨hk,m,S,r3,r44,r45,r46⟩
   have w:am .i64 ((k:Int)+1)=((k+1:Nat):Int):=by rw [wrap64]<;>omega
   have s:=R S.fr
   by_cases hlt:k<d.arcs.length
   . obtain⟨c1,o1,M,G⟩:=s.A.ix (kd:=.i64) dO hlt
     have ha:=l.arcs d.arcs[k] (Xe hlt)
     have D:d.arcs.take (k+1)=d.arcs.take k++[d.arcs[k]]:=zO hlt
     have bl:(d.arcs.take k).length<=400:=by rw [Xu];omega
     generalize d.arcs[k]=a at G ha D
     have w1:=cV (k:=.u32) rfl (n:=a.s) (by simp only [pw];omega)
     have w2:=cV (k:=.u32) rfl (n:=a.t) (by simp only [pw];omega)
     have w3:=cV (k:=.u32) rfl (n:=a.w) (by simp only [pw];omega)
     simp only [BS,LB,Nat.reduceLT,Nat.reduceEqDiff,Fi,r44,r45,r46,aq,hlt,M,G,cw]
     refine ag aw S ?_;clear S;intro h O S X
     simp only [BS,LB,Nat.reduceLT,Nat.reduceEqDiff]
     refine ax (S.store (i:=0) rfl ?_ ?_ rfl rfl ?_ ono) ?_
     . exact(by exact Tryz.t46.2.1)
     . exact(by intro x e;cases e)
     . exact lbt rfl
     clear S;rintro h ⟨S,mo⟩;clear mo;simp only [LC,ah,lay,Xv,Xw,Nat.reduceAdd]at S
     simp only [BS,LB,cE,aN,cM,Nat.reduceLT,Nat.reduceEqDiff,Fi,r3,w1,w2,w3,S.ld (b:=O) (o:=0) m0 rfl,S.ld (b:=O) (o:=1) m0 rfl,S.ld (b:=O) (o:=2) m0 rfl]
     refine ag (bj (by exact Tryz.t196.1) (by exact XO) (by decide) (by rfl)) S ?_;clear S;intro h U S y;simp only [LC,aR,bo,ah,Nat.reduceMul,Nat.reduceAdd,Xi,Xg,Xk,Xm]at S
     obtain⟨S,z,A⟩:=S.bsl (kd:=.u32) (xs:=[(a.s:Int),(a.t:Int),(a.w:Int)])
     simp only [BS,LB,Nat.reduceLT,Nat.reduceEqDiff]
     refine step_ret (p9 S (i:=2) (j:=0) rfl rfl z A (by rw [Xa,dp qj];simp;omega)) ?_
     clear S z A;rintro _ h ⟨m,S⟩
     simp only [LC,Xc,Xd]at S
     rw [fj (by omega),fj (by omega),fj (by omega),Xn,show(d.arcs.take k).flatMap iL++(aJ 4 a.s++(aJ 4 a.t++aJ 4 a.w))=(d.arcs.take (k+1)).flatMap iL by rw [D,Xh];simp [iL]]at S
     simp only [BS,LB,Nat.reduceLT,Nat.reduceEqDiff,r46,w]
     exact F (k+1) _ _ (by omega) ⟨by omega,m,S.drop1,by simp [aa,r3],by simp [aa,r44],by simp [aa,r45],by simp [aa]⟩
   . have:k=d.arcs.length:=by omega
     subst this
     rw [Xr]at S
     have gw:=(S.gown _ m0).1
     simp only [BS,LB,Nat.reduceLT,Nat.reduceEqDiff,r3,r45,r46,aq,hlt]
     refine al (jJ S.ok (S.ld (b:=t) (o:=0) m1 rfl) gw) ?_
     intro h g
     replace S:=S0.rebase (S.call g)
     simp only [BS,LB,ae,Nat.reduceLT,Nat.reduceEqDiff]
     exact⟨S.gr,by rw [<-W];unfold ie;simp only [Xn]⟩
def Tryz.F1f:=aj t1<|aj t2<|aj t3<|aj t4<|aj t31<|aj t42<|Z5
def Tryz.Fj:=aj t1<|aj t2<|aj t3<|aj t4<|aj t5<|aj t6<|aj Z1<|aj Z4<|aj t9<|aj t10<|aj t11<|aj t12<|aj Z7<|aj Z13<|aj t15<|aj t16<|aj t17<|aj t22<|aj t23<|aj t27<|aj t29<|aj t30<|aj t31<|aj t32<|aj Z12<|aj t39<|aj t42<|aj t76<|aj Z2<|aj Z8<|aj t120<|aj Z5<|aj Z6<|aj Z10<|aj t196<|aj Z16<|aj t356<|t358
def Tryz.F04:=aj t1<|aj t2<|aj t3<|aj t4<|aj t5<|aj t6<|aj Z1<|aj t9<|aj t22<|aj t27<|aj t29<|aj t30<|aj t31<|aj t32<|aj Z12<|aj t42<|aj Z2<|aj Z8<|aj t120<|aj Z5<|aj Z6<|Z10
theorem cmapN_ok{a:Hp}(e:a.t.Sized a.n){p:Value}{m:List Int}{k:Nat}(c:gG a k p m)(f:m.length<1000000):Ret zB 49 [p] a fun r d=>Gr a d/\au d 1 (encI .i64) r m/\ ∀c,ao r c->a.n<=c:=by
 have S:=Si e
 obtain⟨b,v,rfl,r,s,_,_⟩:=c
 have i:=r.load1 (o:=0) rfl
 refine ac (n:=10) (rs:=[.tmp 2]) rfl Tryz.e49 rfl rfl rfl (lbt rfl) ?_
 simp only [BS,LB,Nat.reduceLT,Nat.reduceEqDiff,F1f,i]
 refine step_ret (fK S.ok (aM .i64) s f) ?_;intro v h ⟨g,sl,q⟩;replace S:=S.call g;clear g
 simp only [BS,LB,ae,Nat.reduceLT,Nat.reduceEqDiff]
 exact⟨S.gr,sl,q⟩
theorem mix_take{l m:List (List Int)}(h:l.length=m.length){k:Nat}(c:k<l.length):(mix l m).take (2*(k+1))=(mix l m).take (2*k)++[l[k],m[k]'(h▸c)]:=by
 induction l generalizing m k with
 |nil=>simp at c
 | cons a l d=>
   cases m with
   |nil=>simp at h
   | cons b m=>
     cases k with
     |zero=>simp [mix]
     | succ k=>
       have:=d (m:=m) (by simpa using h) (k:=k) (by simpa using c)
       rw [show 2*(k+1+1)=2*(k+1)+2 by omega,show 2*(k+1)=2*k+2 by omega]at*
       simp only [mix,XU,List.getElem_cons_succ,List.cons_append]
       rw [this]
theorem rows_len{N:Nat}(l:List (List Int))(h: ∀r∈l,r.length=N):(l.flatMap nv).length=8*N*l.length:=xe l fun r a=>tC (h r a)
theorem LLD.rd{M:Nat->Prop}{h e:Hp}{m k n i:Nat}{v:Value}{R:Nat->List Int}(r:LLD h m k v n R)(u:i<n)(f:Mo M h e)(p: ∀b,M b->b<m\/k<=b):
 ∃w c o,ig (some 1) v (.int .i64 (i:Nat))=some (.pointer (some ⟨c,o,none⟩))/\e.load c o 1=some [w]/\au e 1 (encI .i64) w (R i)/\ ∀c,ao w c->m<=c/\c<k:=by
 obtain⟨g,a,b,c,d,_⟩:=r.mo f p
 obtain⟨q,o,s,t⟩:=a.ix (kd:=.i64) oN (i:=i) (by omega)
 have j:g[i]? =some g[i]:=Xj (by omega)
 exact⟨g[i],q,o,s,t,(d i _ j).1.1,fun x l=>⟨((d i _ j).2 x l).1,((d i _ j).2 x l).2.1⟩⟩
theorem marksS_ok{v:Hp}(ok:v.t.Sized v.n){b:Nat}{I:Img}{T:Tab}(hT:I.T=some T)(i:iz v b I):Ret zB 103 [ptrTo b] v fun r h'=>Gr v h'/\r=sv (jN T):=by
 have S:=Si ok
 obtain⟨pn,pt,pc,pf,r,_,L,B,_⟩:=i
 rw [hT]at B
 have B:np v pt I.g.nodes T:=B
 obtain⟨bt,rfl⟩:=B.ptr
 obtain⟨⟨mt,Y⟩,t⟩:=B
 have n2:=L.n2
 have Z:=r.load1 (o:=1) rfl
 have t1:=t.l1
 have t2:=t.l2
 have t3:=t.to
 have t4:=t.fr
 have M: ∀{i:Nat},(h:i<T.l.length)->bI T.to i=T.to[i]/\bI T.fr i=T.fr[i]:=fun {i} h=>by
  unfold bI;simp [Xf,show i<T.to.length by omega,show i<T.fr.length by omega]
 have N: ∀i,i<T.l.length->(bI T.to i).length=I.g.nodes/\(bI T.fr i).length=I.g.nodes:=fun i h=>by
  rw [(M h).1,(M h).2];exact⟨(t.rTo _ (Xe _)).1,(t.rFr _ (Xe _)).1⟩
 refine ac (n:=62) (rs:=[.tmp 2]) rfl Tryz.e103 rfl rfl rfl (lbt rfl) ?_
 simp only [BS,LB]
 refine step_ret (mX S) ?_
 rintro _ h ⟨q,rfl,S⟩
 simp only [BS,LB,Nat.reduceLT,Nat.reduceEqDiff,Fj,S.gr.load Z]
 have kb:=S.key_lt (b:=q) (by simp [keys])
 refine step_ret (jP S.ok (Y.gr S.gr) (by omega)) ?_
 rintro O Q ⟨g,H,hM⟩
 replace S:=S.call g
 have R:=S
 replace S:=S.base
 have gB:=R.gr
 have U: ∀{s:Hp},Mo (· ∈[q]) Q s->au s 1 (encI .i64) O T.l:=fun f=>H.mo f (fun c d e=>by simp only [Xs]at e;have:=hM c d;omega)
 have w0:=cV (k:=.u8) rfl (n:=T.l.length) (by simp only [pw];omega)
 simp only [BS,LB,cE,aN,cM,Nat.reduceLT,Nat.reduceEqDiff,Fj,H.lenq,w0]
 refine ag (bj (by exact Tryz.t22.1) (by exact XX) (by decide) (by rfl)) S ?_;clear S;intro h bs S C;simp only [LC,aR,bo,ah,Nat.reduceMul,Nat.reduceAdd,Xi,Xg,Xk,Xm]at S
 obtain⟨S,D,E⟩:=S.bsl (kd:=.u8) (xs:=[(T.l.length:Int)])
 simp only [BS,LB,Nat.reduceLT,Nat.reduceEqDiff]
 refine step_ret (uB S (i:=0) (j:=0) rfl rfl D E (by simp)) ?_
 clear S D E;rintro _ h ⟨p,S⟩
 simp only [LC,Xc,Xd]at S
 rw [fj (by omega)]at S;try rw [List.nil_append]at S
 simp only [BS,LB,Nat.reduceLT,Nat.reduceEqDiff,Fj,H.lenq]
 refine aD (fun(k:Nat) a s=>k<=T.l.length/\ ∃p,St (· ∈keys [(q,Ob.row [.slice none 0 0] 1)] [(.slice none 0 0,1,aT [])]) Q s [(q,.row [p] 1)] [(p,1,aT (aJ 1 T.l.length++(T.l.take k).flatMap lW))]/\a 0=ptrTo b/\a 3=ptrTo q/\a 4=O/\a 22=O/\a 23=.int .i64 T.l.length/\a 24=.int .i64 k) (fun k=>T.l.length-k) ?_ 0 _ _ ⟨Xl _,p,by simpa using S,by simp [aa,aB,ab],by simp [aa,ab],by simp [aa],by simp [aa],by simp [aa],by simp [aa]⟩
 clear S
 intro k J a s ⟨hk,p,S,r0,r3,r4,r22,r23,r24⟩
 have w:am .i64 ((k:Int)+1)=((k+1:Nat):Int):=by rw [wrap64]<;>omega
 by_cases hlt:k<T.l.length
 . obtain⟨c1,o1,z,y⟩:=(U S.fr).ix (kd:=.i64) (aM .i64) hlt
   have hx:=t.rl _ (Xe hlt)
   have tk:T.l.take (k+1)=T.l.take k++[T.l[k]]:=zO hlt
   have bl:(T.l.take k).length<=16:=by rw [Xu];omega
   generalize T.l[k]=x at y hx tk
   obtain⟨x,rfl⟩:=XM hx.1
   have wx:=cV (k:=.u32) rfl (n:=x) (by simp only [pw];omega)
   simp only [BS,LB,cE,aN,cM,Nat.reduceLT,Nat.reduceEqDiff,Fj,r3,r22,r23,r24,aq,hlt,z,y,encI,wx]
   refine ag (bj (by exact Tryz.t196.1) (by exact XO) (by decide) (by rfl)) S ?_;clear S;intro h bs S C;simp only [LC,aR,bo,ah,Nat.reduceMul,Nat.reduceAdd,Xi,Xg,Xk,Xm]at S
   obtain⟨S,D,E⟩:=S.bsl (kd:=.u32) (xs:=[(x:Int)])
   simp only [BS,LB,Nat.reduceLT,Nat.reduceEqDiff]
   refine step_ret (p9 S (i:=0) (j:=0) rfl rfl D E (by rw [Xa,aF,dp mW];simp;omega)) ?_
   clear S D E;rintro _ h ⟨p,S⟩
   simp only [LC,Xc,Xd]at S
   rw [fj (by omega),Xn,show(T.l.take k).flatMap lW++aJ 4 x=(T.l.take (k+1)).flatMap lW by rw [tk,Xh];simp [lW]]at S
   simp only [BS,LB,Nat.reduceLT,Nat.reduceEqDiff,r24,w]
   exact J (k+1) _ _ (by omega) ⟨by omega,p,S,by simp [aa,r0],by simp [aa,r3],by simp [aa,r4],by simp [aa,r22],by simp [aa,r23],by simp [aa]⟩
 . have:k=T.l.length:=by omega
   subst this
   rw [Xr]at S
   generalize hP:aJ 1 T.l.length++T.l.flatMap lW=P at S
   have lP:P.length<=100:=by rw [<-hP,Xa,aF,dp mW];omega
   have F: ∀{s:Hp},Mo (· ∈[q]) Q s->Gr v s:=fun f=>(gB.fr.trans f (fun c d=>by simp only [Xs]at d;subst d;exact R.key_own (by simp [keys])|>.elim .inr .inl):Mo NoM v _).gr
   have ad:=S.fr.n
   simp only [BS,LB,Nat.reduceLT,Nat.reduceEqDiff,Fj,r0,r23,r24,aq,hlt,(F S.fr).load Z]
   refine step_ret (qu S.ok (Y.gr (F S.fr)) (by omega) (fun i h=>by have:=N i h;omega) (fun i h=>by have:=N i h;omega)) ?_
   rintro _ hC ⟨g,vT,vF,kk,rfl,DT,DF,y1,y2⟩
   have K: ∀c∈keys [(q,Ob.row [p] 1)] [(p,1,aT P)],c<_:=fun c d=>S.key_lt d
   replace S:=R.rebase (S.call g)
   have S1:=S
   replace S:=S.base
   have LT: ∀k,((mix T.to T.fr).take k).length<=32:=fun k=>by rw [Xu,rG (by omega)];omega
   have LM: ∀k,∀r∈(mix T.to T.fr).take k,r.length=I.g.nodes:=fun k r hr=>(vu (List.mem_of_mem_take hr)).elim (fun h=>(t.rTo r h).1) (fun h=>(t.rFr r h).1)
   obtain⟨ta,tn,tc,eT⟩:=DT.form
   obtain⟨fa,fn,fc,eF⟩:=DF.form
   simp only [BS,LB,Nat.reduceLT,Nat.reduceEqDiff,Fj,r4,H.lenq]
   refine aD (fun(k:Nat) a s=>k<=T.l.length/\ ∃V,St (· ∈keys [(q,Ob.row [p] 1)] [(p,1,aT P)]) hC s [(q,.row [V] 1)] [(V,1,aT (P++((mix T.to T.fr).take (2*k)).flatMap nv))]/\a 3=ptrTo q/\a 7=vT/\a 8=vF/\a 43=.int .i64 T.l.length/\a 44=.int .i64 k) (fun k=>T.l.length-k) ?_ 0 _ _ ⟨Xl _,p,by simpa using S,by simp [aa,r3],by simp [aa],by simp [aa],by simp [aa],by simp [aa]⟩
   clear S r0 r3 r4 r22 r23 r24 J w hlt hk
   intro k J a s ⟨hk,V,S,r3,r7,r8,r43,r44⟩
   have w:am .i64 ((k:Int)+1)=((k+1:Nat):Int):=by rw [wrap64]<;>omega
   by_cases hlt:k<T.l.length
   . obtain⟨g1,g2⟩:=M hlt
     obtain⟨q1,q2⟩:=N k hlt
     have mt:=mix_take (l:=T.to) (m:=T.fr) (by omega) (k:=k) (by omega)
     rw [<-g1,<-g2]at mt
     have l0:=LT (2*k)
     have lr:=rows_len _ (LM (2*k))
     have l8:8*I.g.nodes*((mix T.to T.fr).take (2*k)).length<=8*300*32:=Nat.mul_le_mul (by omega) l0
     obtain⟨u,c1,o1,z,y,G,A⟩:=DT.rd hlt S.fr (fun b W=>.inl (K b W))
     simp only [BS,LB,Nat.reduceLT,Nat.reduceEqDiff,Fj,r3,r7,r43,r44,aq,hlt,z,y]
     refine step_ret (vg S (i:=0) (j:=0) rfl rfl G (fun c d X=>?_) (by rw [Xa,lr];omega)) ?_
     . rcases S.key_own X with h|h
       . have:=A c d;omega
       . have:=K c h;have:=A c d;omega
     clear S G A z y;rintro _ h ⟨v3,S⟩
     simp only [LC,Xc,Xd]at S
     obtain⟨u2,c1,o1,z,y,G,A⟩:=DF.rd hlt S.fr (fun b W=>.inl (Xb (K b W) y1))
     simp only [BS,LB,Nat.reduceLT,Nat.reduceEqDiff,Fj,r3,r8,z,y]
     refine step_ret (vg S (i:=0) (j:=0) rfl rfl G (fun c d X=>?_) (by rw [Xa,Xa,lr,show(fun x=>aJ 8 (u64 x))=put8 from rfl,dp lE];omega)) ?_
     . rcases S.key_own X with h|h
       . have:=A c d;omega
       . have:=K c h;have:=A c d;omega
     clear S G A z y;rintro _ h ⟨v3,S⟩
     simp only [LC,Xc,Xd]at S
     rw [Xn,Xn,show((mix T.to T.fr).take (2*k)).flatMap nv++((bI T.to k).flatMap (fun x=>aJ 8 (u64 x))++(bI T.fr k).flatMap (fun x=>aJ 8 (u64 x)))=((mix T.to T.fr).take (2*(k+1))).flatMap nv by rw [mt,Xh];simp only [Xc,Xd,XD];rfl]at S
     simp only [BS,LB,Nat.reduceLT,Nat.reduceEqDiff,r44,w]
     exact J (k+1) _ _ (by omega) ⟨by omega,v3,S,by simp [aa,r3],by simp [aa,r7],by simp [aa,r8],by simp [aa,r43],by simp [aa]⟩
   . have:k=T.l.length:=by omega
     subst this
     rw [Xq (by rw [rG (by omega)];omega)]at S
     have gw:=(S.gown _ m0).1
     simp only [BS,LB,Nat.reduceLT,Nat.reduceEqDiff,r3,r43,r44,aq,hlt]
     refine al (jJ S.ok (S.ld (b:=q) (o:=0) m0 rfl) gw) ?_
     intro h g
     replace S:=S1.rebase (S.call g)
     simp only [BS,LB,ae,Nat.reduceLT,Nat.reduceEqDiff]
     exact⟨S.gr,by rw [<-hP];unfold jN;simp only [Xn]⟩
theorem cellsS_ok{a:Hp}(L:a.t.Sized a.n){b:Nat}{I:Img}{m:List Int}{F:Bs}(M:I.C=some (m,F))(i:iz a b I):Ret zB 104 [ptrTo b] a fun r N=>Gr a N/\r=sv (kL m):=by
 have S:=Si L
 obtain⟨pn,pt,O,P,r,_,s,_,u⟩:=i
 rw [M]at u
 obtain⟨k,fp,fb,v,y,B,Q,lm,_,_,_,_,R,_⟩:=(u:ib a O P I.g m F)
 have n2:=s.n2
 have T:=r.load1 (o:=2) rfl
 refine ac (n:=25) (rs:=[.tmp 2]) rfl Tryz.e104 rfl rfl rfl (lbt rfl) ?_
 simp only [BS,LB]
 refine step_ret (mX S) ?_
 rintro _ h ⟨d,rfl,S⟩
 simp only [BS,LB,Nat.reduceLT,Nat.reduceEqDiff,F04,S.gr.load T]
 have kb:=S.key_lt (b:=d) (by simp [keys])
 refine step_ret (cmapN_ok S.ok (Q.gr S.gr) (by omega)) ?_
 rintro z A ⟨g,C,U⟩
 replace S:=S.call g
 have V:=S
 replace S:=S.base
 have t: ∀{l:Hp},Mo (· ∈[d]) A l->au l 1 (encI .i64) z m:=fun f=>C.mo f (fun c W e=>by simp only [Xs]at e;have:=U c W;omega)
 simp only [BS,LB,Nat.reduceLT,Nat.reduceEqDiff,F04,C.lenq]
 refine aD (fun(k:Nat) p l=>k<=m.length/\ ∃q,St (· ∈keys [(d,Ob.row [.slice none 0 0] 1)] [(.slice none 0 0,1,aT [])]) A l [(d,.row [q] 1)] [(q,1,aT (kL (m.take k)))]/\p 3=ptrTo d/\p 11=z/\p 12=.int .i64 m.length/\p 13=.int .i64 k) (fun k=>m.length-k) ?_ 0 _ _ ⟨Xl _,_,S,by simp [aa,ab],by simp [aa],by simp [aa],by simp [aa]⟩
 clear S
 intro k X p l ⟨hk,q,S,r3,r11,r12,r13⟩
 have w:am .i64 ((k:Int)+1)=((k+1:Nat):Int):=by rw [wrap64]<;>omega
 by_cases hlt:k<m.length
 . obtain⟨c1,o1,Y,D⟩:=(t S.fr).ix (kd:=.i64) (aM .i64) hlt
   have E:=R _ (Xe hlt)
   have G:m.take (k+1)=m.take k++[m[k]]:=zO hlt
   have Z:(kL (m.take k)).length=k:=by simp [kL];omega
   generalize m[k]=x at D E G
   obtain⟨x,rfl⟩:=XM E.1
   have wx:=cV (k:=.u8) rfl (n:=x) (by simp only [pw];omega)
   simp only [BS,LB,cE,aN,cM,Nat.reduceLT,Nat.reduceEqDiff,F04,r3,r11,r12,r13,aq,hlt,Y,D,encI,wx]
   refine ag (bj (by exact Tryz.t22.1) (by exact XX) (by decide) (by rfl)) S ?_;clear S;intro h bs S H;simp only [LC,aR,bo,ah,Nat.reduceMul,Nat.reduceAdd,Xi,Xg,Xk,Xm]at S
   obtain⟨S,J,K⟩:=S.bsl (kd:=.u8) (xs:=[(x:Int)])
   simp only [BS,LB,Nat.reduceLT,Nat.reduceEqDiff]
   refine step_ret (uB S (i:=0) (j:=0) rfl rfl J K (by rw [Z];simp;omega)) ?_
   clear S J K;rintro _ h ⟨q,S⟩
   simp only [LC,Xc,Xd]at S
   rw [fj (by omega),show kL (m.take k)++aJ 1 x=kL (m.take (k+1)) by rw [G];simp [kL,aJ]]at S
   simp only [BS,LB,Nat.reduceLT,Nat.reduceEqDiff,r13,w]
   exact X (k+1) _ _ (by omega) ⟨by omega,q,S,by simp [aa,r3],by simp [aa,r11],by simp [aa,r12],by simp [aa]⟩
 . have:k=m.length:=by omega
   subst this
   rw [Xr]at S
   have gw:=(S.gown _ m0).1
   simp only [BS,LB,Nat.reduceLT,Nat.reduceEqDiff,r3,r12,r13,aq,hlt]
   refine al (jJ S.ok (S.ld (b:=d) (o:=0) m0 rfl) gw) ?_
   intro h g
   replace S:=V.rebase (S.call g)
   simp only [BS,LB,ae,Nat.reduceLT,Nat.reduceEqDiff]
   exact S.gr
def Tryz.F1g:=aj t1<|aj t3<|aj t9<|aj t22<|aj t27<|aj t29<|aj t30<|aj t31<|aj t32<|aj Z12<|aj Z2<|aj Z8<|aj Z5<|Z6
def Tryz.Fs:=aj t1<|aj t2<|aj t3<|aj t4<|aj t5<|aj t6<|aj Z1<|aj t9<|aj t27<|aj t29<|aj t30<|aj t31<|aj t32<|aj Z12<|aj t39<|aj t42<|aj t58<|aj t69<|aj r69<|aj Z2<|aj Z8<|aj t116<|aj Z5<|aj t178<|aj r178<|aj t179<|Z6
structure Qd where
 kd:Nat
 is:Bool
 f:Value
 body:Bs
def encQ(q:Qd):List Value:=[.int .i64 (q.kd:Nat),.bool q.is,q.f]
theorem yt(q:Qd):(encQ q).length=3:=rfl
def jD(l:List Qd):List Sec:=(l.filter Qd.is).map fun q=>(q.kd,q.body)
theorem Am(l:List Qd)(q:Qd):jD (l++[q])=jD l++if q.is=true then [(q.kd,q.body)]else []:=by
 unfold jD
 rw [List.filter_append,List.map_append]
 cases h:q.is<;>simp [h]
theorem build_q4{a b c d e f g h i j k l:Value}:jV zB 179 [(0,.agg ⟨[a,b,c]⟩),(1,.agg ⟨[d,e,f]⟩),(2,.agg ⟨[g,h,i]⟩),(3,.agg ⟨[j,k,l]⟩)]=some (.agg ⟨[a,b,c,d,e,f,g,h,i,j,k,l]⟩):=by
 unfold jV
 rw [Tryz.t179.2.2.2.1,Tryz.t179.1]
 simp only [Tryz.t178.2.1]
 rfl
theorem index_q4{l:List Qd}(a:l.length=4){i:Nat}(b:i<4):jn zB 179 (.agg ⟨l.flatMap encQ⟩) (.int .i64 (i:Nat))=some (.agg ⟨encQ (l[i]'(by omega))⟩):=by
 unfold jn
 rw [Tryz.t179.1]
 simp only [Tryz.t178.2.1,fo b,partOf,Tryz.t178.1,aW yt,a]
 rw [XS (by omega),cond_true,qJ yt]
theorem neq_ptr{E:Env}{t:TypeId}{x y:Operand}{p:Value}{s:Bool}(a:me E t=true)(h:(p=.pointer none/\s=false)\/((∃b,p=ptrTo b)/\s=true)):aO E .neq t x y p (.pointer none)=some (.bool s):=by
 rcases h with⟨rfl,rfl⟩|⟨⟨b,rfl⟩,rfl⟩
 . exact n_pnil a
 . exact n_ptr a
theorem sec1_ok{a:Hp}(j:a.t.Sized a.n){b c:Nat}{I:Img}{m:List Int}{F:Bs}(l:I.C=some (m,F))(i:iz a b I)(p:a.load c 0 1=some [ptrTo b]):bC zB 105 [ptrTo c] a (sv F):=by
 have S:=Si j
 obtain⟨w,x,q,s,r,_,t,_,d⟩:=i
 rw [l]at d
 obtain⟨k,y,z,e,f,B,_,_,rfl,_,u,rfl,_⟩:=(d:ib a q s I.g m F)
 have v:=r.load1 (o:=3) rfl
 refine ac (n:=7) (rs:=[.tmp 1]) rfl Tryz.e105 rfl rfl rfl (lbt rfl) ?_
 simp only [BS,LB,Nat.reduceLT,Nat.reduceEqDiff,F1g,p,v]
 refine al (yf S.ok u) ?_;intro h g;replace S:=S.call g;clear g
 simp only [BS,LB,ae,Nat.reduceLT,Nat.reduceEqDiff]
 exact S.gr
def tabO:Option Tab->Bs
 |some T=>jN T
 |none=>[]
theorem pQ{B:Hp}(ok:B.t.Sized B.n){b:Nat}{I:Img}(i:iz B b I):Ret zB 45 [ptrTo b] B fun r s=>Gr B s/\au s 2 encS r (aU I):=by
 have S:=Si ok
 have K:=i
 obtain⟨pn,X,Y,pf,r,_,aL,L,M⟩:=i
 have l1:=r.load1 (o:=1) rfl
 have l2:=r.load1 (o:=2) rfl
 have nT:(X=.pointer none/\I.T.isSome=false)\/((∃b,X=ptrTo b)/\I.T.isSome=true):=by
  cases C:I.T with
  |none=>rw [C]at L;exact .inl ⟨L,rfl⟩
  |some T=>rw [C]at L;exact .inr ⟨np.ptr L,rfl⟩
 have nC:(Y=.pointer none/\I.C.isSome=false)\/((∃b,Y=ptrTo b)/\I.C.isSome=true):=by
  cases u:I.C with
  |none=>rw [u]at M;exact .inl ⟨M.1,rfl⟩
  |some c=>obtain⟨m,F⟩:=c;rw [u]at M;obtain⟨x,y,e,_⟩:=ib.ptr M;exact .inr ⟨⟨x,e⟩,rfl⟩
 have eT:=fun(x y:Operand)=>neq_ptr (x:=x) (y:=y) Tryz.t30.2.2.2.2.1 nT
 have eC:=fun(x y:Operand)=>neq_ptr (x:=x) (y:=y) Tryz.t31.2.2.2.2.1 nC
 refine ac (n:=48) (rs:=[.tmp 2]) rfl Tryz.e45 rfl rfl rfl (lbt rfl) ?_
 simp only [BS,Nat.reduceLT]
 refine ag (cL (by exact dh)) S ?_;clear S;intro h Z S ad
 have R1:=S.row (b:=Z) m0
 have z:=S.gr
 have D:=R1.load1 (o:=0) rfl
 obtain⟨Q,E⟩: ∃Q:List Qd,Q=[⟨1,true,.func (.func 102) #[ptrTo b] #[],ie I.g⟩,⟨2,I.T.isSome,.func (.func 103) #[ptrTo b] #[],tabO I.T⟩,⟨3,I.C.isSome,.func (.func 104) #[ptrTo b] #[],match I.C with|some c=>kL c.1|none=>[]⟩,⟨4,I.C.isSome,.func (.func 105) #[] #[ptrTo Z],match I.C with|some c=>c.2|none=>[]⟩]:=⟨_,rfl⟩
 have lQ:Q.length=4:=by rw [E];rfl
 have sQ:jD Q=aU I:=by
  rw [E];unfold jD aU tabO
  cases I.T<;>cases I.C<;>rfl
 have fQ: ∀q∈Q,Fl q.f:=by
  intro q A;rw [E]at A
  simp only [XF,Xy,or_false]at A
  rcases A with rfl|rfl|rfl|rfl<;>exact gD
 rename Hp=>hS
 have cQ: ∀q∈Q,q.is=true-> ∃g a c,q.f=.func (.func g) a c/\ ∀s,Gr hS s->Ret zB g (a.toList++c.toList) s fun r O=>Gr s O/\r=sv q.body:=by
  intro q A p;rw [E]at A
  simp only [XF,Xy,or_false]at A
  rcases A with rfl|rfl|rfl|rfl
  . exact⟨_,_,_,rfl,fun s g=>graphS_ok g.ok (K.gr (z.trans g))⟩
  . cases C:I.T with
    |none=>rw [C]at p;cases p
    |some T=>exact⟨_,_,_,rfl,fun s g=>marksS_ok g.ok C (K.gr (z.trans g))⟩
  . cases u:I.C with
    |none=>rw [u]at p;cases p
    |some c=>obtain⟨m,F⟩:=c;exact⟨_,_,_,rfl,fun s g=>cellsS_ok g.ok u (K.gr (z.trans g))⟩
  . cases u:I.C with
    |none=>rw [u]at p;cases p
    |some c=>obtain⟨m,F⟩:=c;exact⟨_,_,_,rfl,fun s g=>oV (sec1_ok g.ok u (K.gr (z.trans g)) (g.load D)) fun v s e=>⟨e.2,e.1⟩⟩
 simp only [BS]
 refine ar (ay rfl) (q:=0) (ps:=[]) (by kernel_rfl) ?_
 simp only [BS,LB,cls,Nat.reduceLT,Nat.reduceEqDiff,Nat.reduceAdd,Nat.reducePow,Nat.reduceDiv,Nat.reduceMod,Nat.reduceLeDiff,Fs,D,z.load l1,z.load l2,eT,eC,build_q4]
 replace S:=S.nilG (k:=2)
 refine aD (fun(k:Nat) N h=>k<=4/\ ∃v,St NoM hS h [] [(v,2,(jD (Q.take k)).flatMap encS)]/\N 2=v/\N 31=.agg ⟨Q.flatMap encQ⟩/\N 32=.int .i64 k) (fun k=>4-k) ?_ 0 _ _ ⟨Xl _,_,(St.init z.ok).nilG,by simp [aa],by rw [E];simp [aa,encQ,ab],by simp [aa]⟩
 clear S
 intro k ih N h ⟨hk,v,S,r2,r31,r32⟩
 have w:am .i64 ((k:Int)+1)=((k+1:Nat):Int):=by rw [wrap64]<;>omega
 by_cases hlt:k<4
 . have t:(k:Int)<4:=by omega
   have G:k<Q.length:=by omega
   have mQ:=Xe G
   have P:=index_q4 lQ hlt
   have R:=fQ _ mQ
   have U:=cQ _ mQ
   have tk:Q.take (k+1)=Q.take k++[Q[k]]:=zO G
   have V:=(congrArg jD tk).trans (Am _ _)
   have ln:(jD (Q.take k)).length<=4:=by unfold jD;rw [XA];exact Xp (List.length_filter_le _ _) (by rw [Xu];omega)
   generalize Q[k]=q at P R U V
   obtain⟨W,is,f,d⟩:=q
   simp only [encQ]at P
   simp only []at R U
   simp only [BS,LB,Nat.reduceLT,Nat.reduceEqDiff,Fs,r31,r32,t,P]
   refine ag aw S ?_;clear S;intro h H S af
   simp only [BS,LB,Nat.reduceLT,Nat.reduceEqDiff]
   refine ax (S.store (i:=0) rfl Tryz.t178.2.1 (by intro x e;cases e) rfl (by simp only [ah,XE,XK,R.2.1,Xo];rfl) (lbt rfl) ono) ?_
   clear S;rintro h ⟨S,_⟩
   simp only [LC,ah,lay,Xv,Xw,Nat.reduceAdd]at S
   cases is with
   | false=>
     simp only [BS,LB,Nat.reduceLT,Nat.reduceEqDiff,Fs,r32,w,S.ld (b:=H) (o:=1) m0 rfl]
     have S:=S.drop1
     rw [show jD (Q.take k)=jD (Q.take (k+1)) by rw [V];simp]at S
     exact ih (k+1) _ _ (by omega) ⟨by omega,v,S,by simp [aa,r2],by simp [aa,r31],by simp [aa]⟩
   | true=>
     obtain⟨g,a,c,rfl,hr⟩:=U rfl
     simp only [BS,LB,Nat.reduceLT,Nat.reduceEqDiff,Fs,S.ld (b:=H) (o:=1) m0 rfl]
     refine ar (ay rfl) (q:=128) (ps:=[(2,5)]) (by kernel_rfl) ?_
     simp only [BS,LB,cls,Nat.reduceLT,Nat.reduceEqDiff,Nat.reduceAdd,Nat.reducePow,Nat.reduceDiv,Nat.reduceMod,Nat.reduceLeDiff,Fs,r2,S.ld (b:=H) (o:=0) m0 rfl,S.ld (b:=H) (o:=2) m0 rfl]
     have k4:=S.key_lt (b:=H) (by simp [keys])
     refine c6 (hr _ S.gr) ?_
     rintro _ h5 ⟨g5,rfl⟩
     have e5:=aK g5 k4
     replace S:=S.call g5
     simp only [BS,LB,cls,Nat.reduceLT,Nat.reduceEqDiff,Nat.reduceAdd,Nat.reducePow,Nat.reduceDiv,Nat.reduceMod,Nat.reduceLeDiff,Fs,fl_sv (l:=d)]
     refine fe (bj (by exact Tryz.t58.1) (by exact Tryz.e69E) (by decide) (by rfl)) S ?_;clear S;intro h bs S ai ak;simp only [LC,aR,bo,ah,Nat.reduceMul,Nat.reduceAdd,Xi,Xg,Xk,Xm]at S
     have J:aI h 2 (.slice (some ⟨bs,0,none⟩) 1 1)=some (1,encS (W,d)):=by simp only [aI];rw [S.lds (b:=bs) (o:=0) (n:=1*2) m0 (lbt rfl)];rfl
     replace S:=S.drop1
     simp only [BS,LB,cls,Nat.reduceLT,Nat.reduceEqDiff,Nat.reduceAdd,Nat.reducePow,Nat.reduceDiv,Nat.reduceMod,Nat.reduceLeDiff]
     refine kJ (S.grow (j:=0) (m:=1) (new:=encS (W,d)) rfl Tryz.t58.1 Tryz.e69E (by decide) Tryz.t58.2.2.2.2.2 J rfl (by decide) rfl (by rw [aW lu,lu];omega)) ?_
     clear S J;rintro h v2 S
     simp only [LC]at S
     rw [show(jD (Q.take k)).flatMap encS++encS (W,d)=(jD (Q.take (k+1))).flatMap encS by rw [V,Xh];simp]at S
     simp only [BS,LB,cls,Nat.reduceLT,Nat.reduceEqDiff,Nat.reduceAdd,Nat.reducePow,Nat.reduceDiv,Nat.reduceMod,Nat.reduceLeDiff,r32]
     refine⟨by simp only [bQ,bW,bE,cd,bM,ne_eq,not_false_eq_true,ce,cB,bO,bN,cy,dr,bK,Nat.reduceLT,Nat.reduceEqDiff,reduceIte,Xo,r2,r31,r32,ab,bJ e5,aQ e5],?_⟩
     simp only [w]
     exact ih (k+1) _ _ (by omega) ⟨by omega,v2,S.drop1,by simp [aa],by simp [aa,r31],by simp [aa]⟩
 . have t: ¬(k:Int)<4:=by omega
   rw [Xq (by omega),sQ]at S
   simp only [BS,LB,ae,Nat.reduceLT,Nat.reduceEqDiff,r2,r32,t]
   exact⟨z.trans S.gr,(S.gown _ m0).1.sl rfl lu (by decide)⟩
def Tryz.FS:=aj t1<|aj t2<|aj t3<|aj t4<|aj t5<|aj t6<|aj Z1<|aj Z4<|aj t9<|aj t58<|aj t69<|r69
def Tryz.F1h:=aj t1<|aj t2<|aj t3<|aj t4<|aj t5<|aj t9<|aj t27<|aj t29<|aj t30<|aj t31<|aj t32<|aj Z12<|aj t51<|aj t58<|aj t69<|r69
def andQ(x y:Option Bool):Option Bool:=match x with
 |some true=>y
 |r=>r
theorem eq_sec(a b:Int)(s t:ByteArray):dm zB 40 69 (.agg ⟨[.int .i64 a,.string s]⟩) (.agg ⟨[.int .i64 b,.string t]⟩)=andQ (some (gf a b)) (andQ (some (dS (az s) (az t))) (some true)):=by kernel_rfl
theorem ok_sec:Tryz.abEnv.eqok 69=true:=by kernel_rfl
theorem n_sec{x y:Operand}{a b:Sec}:aO zB .neq 69 x y (.agg ⟨encS a⟩) (.agg ⟨encS b⟩)=some (.bool (!decide (a=b))):=by
 obtain⟨c,e⟩:=a
 obtain⟨d,f⟩:=b
 have e3:eB zB 69 x y (.agg ⟨encS (c,e)⟩) (.agg ⟨encS (d,f)⟩)=(bif Tryz.abEnv.eqok 69 then dm zB 40 69 (.agg ⟨encS (c,e)⟩) (.agg ⟨encS (d,f)⟩)else none):=rfl
 show(eB zB 69 x y (.agg ⟨encS (c,e)⟩) (.agg ⟨encS (d,f)⟩)).map (fun r=>Value.bool (!r))=_
 rw [e3,ok_sec,cond_true,show dm zB 40 69 (.agg ⟨encS (c,e)⟩) (.agg ⟨encS (d,f)⟩)=_ from eq_sec c d (ec e) (ec f),j9,sS,jf,jf,show decide ((c:Int)=(d:Int))=decide (c=d)from decide_eq_decide.2 (by omega)]
 by_cases g:c=d<;>by_cases h:e=f<;>simp [andQ,g,h]
theorem eqSec_ok{g:Hp}(t:g.t.Sized g.n){u v:Value}{l m:List Sec}(r:au g 2 encS u l)(s:au g 2 encS v m)(B:l.length<1000000):bC zB 46 [u,v] g (.bool (decide (l=m))):=by
 have S:=Si t
 by_cases a:l.length=m.length
 . have hle:((l.length:Int)=(m.length:Int)):=by omega
   refine ac (n:=26) (rs:=[.tmp 4]) rfl Tryz.e46 rfl rfl rfl (lbt rfl) ?_
   simp only [BS,LB,Nat.reduceLT,Nat.reduceEqDiff,FS,r.lenq,s.lenq,hle]
   refine aD (fun(i:Nat) j h=>i<=l.length/\l.take i=m.take i/\Gr g h/\j 0=u/\j 1=v/\j 12=.int .i64 l.length/\j 13=.int .i64 i) (fun i=>l.length-i) ?_ 0 _ _ ⟨Xl _,rfl,Gr.refl t,by simp [aa,aB],by simp [aa,aB,aY],by simp [aa,a],by simp [aa]⟩
   clear S
   intro i x j h ⟨hi,ht,S,r0,r1,r12,r13⟩
   by_cases hlt:i<l.length
   . obtain⟨c,o,d,k⟩:=(r.gr S).ix (kd:=.i64) lu hlt
     obtain⟨C,D,b,e⟩:=(s.gr S).ix (kd:=.i64) lu (a▸hlt)
     have w:am .i64 ((i:Int)+1)=((i+1:Nat):Int):=by rw [wrap64]<;>omega
     by_cases p:l[i]=m[i]
     . simp only [BS,LB,Nat.reduceLT,Nat.reduceEqDiff,r12,r13,aq,hlt]
       refine ar (ay rfl) (q:=0) (ps:=[]) (by kernel_rfl) ?_
       simp only [BS,LB,cls,Nat.reduceLT,Nat.reduceEqDiff,Nat.reduceAdd,Nat.reducePow,Nat.reduceDiv,Nat.reduceMod,Nat.reduceLeDiff,FS,r0,r1,r13,d,k,b,e,n_sec,p,w]
       refine x (i+1) _ _ (by omega) ⟨by omega,?_,S,by simp [aa,r0],by simp [aa,r1],by simp [aa,r12],by simp [aa]⟩
       rw [zO hlt,zO (a▸hlt),ht,p]
     . have f:l≠m:=by rintro rfl;exact p rfl
       simp only [BS,LB,Nat.reduceLT,Nat.reduceEqDiff,r12,r13,aq,hlt]
       refine ar (ay rfl) (q:=0) (ps:=[]) (by kernel_rfl) ?_
       simp only [BS,LB,cls,ae,Nat.reduceLT,Nat.reduceEqDiff,Nat.reduceAdd,Nat.reducePow,Nat.reduceDiv,Nat.reduceMod,Nat.reduceLeDiff,FS,r0,r1,d,k,b,e,n_sec,p,f]
       exact S
   . have y:l=m:=by
      have z:l.take i=l:=Xq (by omega)
      have A:m.take i=m:=Xq (by omega)
      rw [z,A]at ht;exact ht
     subst y
     simp only [BS,LB,ae,Nat.reduceLT,Nat.reduceEqDiff,r12,r13,aq,hlt]
     exact S
 . have f:l≠m:=by rintro rfl;exact a rfl
   have hle: ¬((l.length:Int)=(m.length:Int)):=by omega
   refine ac (n:=26) (rs:=[.tmp 4]) rfl Tryz.e46 rfl rfl rfl (lbt rfl) ?_
   simp only [BS,LB,ae,Nat.reduceLT,Nat.reduceEqDiff,FS,r.lenq,s.lenq,hle,f]
   exact S.gr
theorem pM(I:Img):(aU I).length<=4:=by
 unfold aU;cases I.T<;>cases I.C<;>simp
theorem kw{a:Hp}(e:a.t.Sized a.n){b c:Nat}{I J:Img}(i:iz a b I)(j:iz a c J):bC zB 16 [ptrTo b,ptrTo c] a (.bool (decide (aU I=aU J))):=by
 have S:=Si e
 refine ac (n:=18) (rs:=[.tmp 4]) rfl Tryz.e16 rfl rfl rfl (lbt rfl) ?_
 simp only [BS,LB,Nat.reduceLT,Nat.reduceEqDiff]
 refine al (tw S.ok (i.gr S.gr)) ?_;intro h g;replace S:=S.call g;clear g
 simp only [BS,LB,Nat.reduceLT,Nat.reduceEqDiff]
 refine al (tw S.ok (j.gr S.gr)) ?_;intro h g;replace S:=S.call g;clear g
 simp only [BS,LB,Nat.reduceLT,Nat.reduceEqDiff]
 refine step_ret (pQ S.ok (i.gr S.gr)) ?_;intro v h ⟨g,d⟩;replace S:=S.call g;clear g
 simp only [BS,LB,Nat.reduceLT,Nat.reduceEqDiff]
 refine step_ret (pQ S.ok (j.gr S.gr)) ?_;intro v h ⟨g,s2⟩;replace S:=S.call g;replace d:=d.gr g;clear g
 simp only [BS,LB,Nat.reduceLT,Nat.reduceEqDiff]
 refine al (eqSec_ok S.ok d s2 (by have:=pM I;omega)) ?_;intro h g;replace S:=S.call g;clear g
 simp only [BS,LB,ae,Nat.reduceLT,Nat.reduceEqDiff]
 exact S.gr
theorem wL(I:Img): ∀x∈aU I,x.1<256:=by
 unfold aU;cases I.T<;>cases I.C<;>simp
theorem fI{a:Hp}(c:a.t.Sized a.n){b:Nat}{I:Img}(i:iz a b I)(d:((aU I).flatMap XC).length<=100000):Ret zB 15 [ptrTo b] a fun r f=>Gr a f/\r=.tuple #[sv (ki (aU I)),.int .i64 0]:=by
 have S:=Si c
 refine ac (n:=16) (rs:=[.tmp 2,.tmp 3]) rfl Tryz.e15 rfl rfl rfl (lbt rfl) ?_
 simp only [BS,LB,Nat.reduceLT,Nat.reduceEqDiff,F1h]
 refine al (tw S.ok (i.gr S.gr)) ?_;intro h g;replace S:=S.call g;clear g
 simp only [BS,LB,Nat.reduceLT,Nat.reduceEqDiff]
 refine step_ret (pQ S.ok (i.gr S.gr)) ?_;intro v h ⟨g,s1⟩;replace S:=S.call g;clear g
 simp only [BS,LB,Nat.reduceLT,Nat.reduceEqDiff]
 refine step_ret (encode_ok S.ok s1 (by have:=pM I;omega) (wL I) d) ?_;intro v h ⟨g,e⟩;replace S:=S.call g;clear g
 subst e
 simp only [BS,LB,ae,Nat.reduceLT,Nat.reduceEqDiff]
 exact S.gr
end Go.Ab
end
section
namespace Go.Ab
theorem St.growB{M:Nat->Prop}{w h:Hp}{L:List (Nat×Ob)}{G:List GL}(S:St M w h L G){E:Env}{t y e:TypeId}{f k m len b md:Nat}{z vs new:List Value}{x:Value}(D:Row h b vs md)(a:len*k=vs.length)(F:E.und t=some (.slice e))(H:dE E e f k z)(I:0<f)
 (q:dz E y=some false) (g:aI h k x=some (m,new)) (A:m*k=new.length) (J:0<m) (B:0<k) (r:(vs.length+new.length)*(f+1)<=70368744177664) {ts:List TypeId}:
 ∃C v',cS E h (t::y::ts) (.slice (some ⟨b,0,none⟩) len len) x=some (C,v')/\St M w C L ((v',k,vs++new)::G):=by
 obtain⟨⟨i,K,rfl,rfl⟩,N,O⟩:=H
 obtain⟨p,el,j,d,s⟩:=D
 have l:Nat.ble (len+m) len=false:=by
  cases q:Nat.ble (len+m) len with
  |false=>rfl
  |true=>exact absurd (lbt q) (by omega)
 have o:len+m<=vs.length+new.length:=by
  rw [<-a,<-A]
  have J:=XN len B
  have P:=XN m B
  omega
 have c:(Nat.ble ((len+m)*(i.bytes+1)) 70368744177664&&Nat.blt 0 i.bytes)=true:=by
  rw [XS (Xp (Nat.mul_le_mul_right _ o) r)]
  simp only [XT]
  rw [Nat.blt_eq];exact I
 have u:Nat.beq z.length i.size=true:=by rw [O];exact Nat.beq_refl _
 have v:iU p vs.length 0 (len*i.size) new=some (p.pushAll vs.length new,vs.length+new.length):=by
  unfold iU
  rw [a,Nat.beq_refl vs.length]
  rfl
 refine⟨h.new (.cells (p.pushAll vs.length new) (vs.length+new.length) e 1),.slice (some ⟨h.n,0,some i.size⟩) (len+m) (len+m),?_,S.newG (n:=len+m) ?_ ?_⟩
 . unfold cS
   simp only [q]
   unfold iX
   simp only [F,K,g]
   unfold eH
   rw [l]
   simp only [cond_false]
   rw [c,N]
   simp only [cond_true,u]
   unfold l6
   simp only [j,v]
 . rw [Nat.add_mul,a,A,Xa]
 . refine⟨p.pushAll vs.length new,e,?_,?_,fun n=>?_⟩
   . rw [Hp.get_new _ _ S.ok,if_pos rfl,Xa]
   . rw [Xa];exact Tr.sized_pushAll _ d
   . rw [Tr.get_pushAll _ _ _ d,List.getElem?_append]
     split
     . exact s n
     . rfl
end Go.Ab

end
section
namespace Go.Ab
open Go.Proofs
set_option maxRecDepth 10000
def Tryz.FG:=aj t1<|aj t2<|aj t3<|aj t4<|aj t5<|aj t6<|aj Z1<|aj Z4<|aj t9<|aj t10<|aj t11<|t42
theorem pos_first{ks:List Int}{x:Int}: ∀{i:Nat} (a:i<ks.length),ks[i]=x->(∀j (c:j<ks.length),j<i->ks[j]≠x)->pos ks x=some i:=by
 induction ks with
 |nil=>intro i a;simp at a
 | cons y k f=>
   intro i a b d
   cases i with
   |zero=>simp only [List.getElem_cons_zero]at b;unfold pos;rw [if_pos b.symm]
   | succ i=>
     have g:y≠x:=d 0 (by simp) (by omega)
     have:=f (i:=i) (by simpa using a) (by simpa using b) (fun j c h=>by have:=d (j+1) (by simpa using c) (by omega);simpa using this)
     unfold pos
     rw [if_neg (fun e=>g e.symm),this]
     rfl
theorem pos_no{ks:List Int}{x:Int}(a: ∀j (b:j<ks.length),ks[j]≠x):pos ks x=none:=by
 induction ks with
 |nil=>rfl
 | cons y f c=>
   have d:y≠x:=a 0 (by simp)
   unfold pos
   rw [if_neg (fun e=>d e.symm),c (fun j b=>by have:=a (j+1) (by simpa using b);simpa using this)]
   rfl
theorem AJ {A:Hp} (ok:A.t.Sized A.n) {v:Value} {l:List Int} (M:au A 1 (encI .i64) v l) (hl:l.length<1000):
 Ret zB 31 [v] A fun r B=>Gr A B/\au B 1 (encI .i64) r (norm [] l)/\ ∀c,ao r c->A.n<=c:=by
 have S:=Si ok
 have fv:=M.fl
 refine ac (n:=46) (rs:=[.tmp 2]) rfl Tryz.e31 rfl rfl rfl (lbt rfl) ?_
 simp only [BS]
 replace S:=(S.nilG (k:=1)).nilG (k:=1)
 refine aD (fun(i:Nat) g h=>i<=l.length/\ ∃(N E:Value) (p ks:List Int),St NoM A h [] [(E,1,ints ks),(N,1,ints p)]/\norm [] l=p++norm ks (l.drop i)/\p.length=i/\ks.length<=i/\g 0=v/\g 3=N/\g 4=E/\g 5=.int .i64 i) (fun i=>l.length-i) ?_ 0 _ _ ?_
 . clear S
   intro i Y g h ⟨hi,N,E,p,ks,S,hnm,lo,lk,s,C,D,t⟩
   have w:am .i64 ((i:Int)+1)=((i+1:Nat):Int):=by rw [wrap64]<;>omega
   by_cases hlt:i<l.length
   . have Z:l.drop i=l[i]::l.drop (i+1):=XI hlt
     obtain⟨c0,o0,R,y0⟩:=M.ix (kd:=.i64) (aM .i64) hlt
     generalize l[i]=x at Z y0
     simp only [BS,LB,Nat.reduceLT,Nat.reduceEqDiff,FG,s,t,M.lenq,aq,hlt]
     refine aD (fun(a:Nat) g B=>B=h/\a<=ks.length/\(∀j (H:j<ks.length),j<a->ks[j]≠x)/\g 0=v/\g 3=N/\g 4=E/\g 5=.int .i64 i/\g 6=.int .i64 a) (fun a=>ks.length-a) ?_ 0 _ _ ?_
     . clear s C D t
       rintro a T g B ⟨rfl,ha,U,s,C,D,t,O⟩
       have wa:am .i64 ((a:Int)+1)=((a+1:Nat):Int):=by rw [wrap64]<;>omega
       have P:au B 1 (encI .i64) E ks:=(S.gown _ m0).1.sl rfl (fun _=>rfl) (by decide)
       have F:B.load c0 o0 1=some [.int .i64 x]:=S.gr.load y0
       have I: ∀(q:Nat) (z:List Int) (u d:Value) (V:Nat->Value) (G:Hp),q=lZ ks x->z=mj ks x->St NoM A G [] [(u,1,ints z),(d,1,ints (p++[(q:Int)]))]->norm [] l=(p++[(q:Int)])++norm z (l.drop (i+1)):=fun q z u d V G e1 e2 _=>by
        rw [hnm,Z,norm,<-e1,<-e2,Xn];rfl
       by_cases y:a<ks.length
       . obtain⟨c1,o1,x1,J⟩:=P.ix (kd:=.i64) (aM .i64) y
         replace J:B.load c1 o1 1=some [.int .i64 ks[a]]:=J
         by_cases Q:ks[a]=x
         . simp only [BS]
           refine ar (ay rfl) (q:=0) (ps:=[]) (by kernel_rfl) ?_
           have W: ¬(a:Int)=(ks.length:Int):=by omega
           rw [Q]at J
           simp only [BS,LB,cls,ae,Nat.reduceLT,Nat.reduceEqDiff,Nat.reduceAdd,Nat.reducePow,Nat.reduceDiv,Nat.reduceMod,Nat.reduceLeDiff,FG,s,C,D,t,O,P.lenq,aq,y,x1,J,R,F,W]
           refine ag (bj (by exact Tryz.t42.1) (by exact XB) (by decide) (by rfl)) S ?_;clear S;intro h K S L;simp only [LC,aR,bo,ah,Nat.reduceMul,Nat.reduceAdd,Xi,Xg,Xk,Xm]at S
           simp only [BS,LB,Nat.reduceLT,Nat.reduceEqDiff]
           have ps:=pos_first y Q U
           have f:aI h 1 (.slice (some ⟨K,0,none⟩) 1 1)=some (1,ints [(a:Int)]):=by simp only [aI];rw [S.lds (b:=K) (o:=0) (n:=1*1) m0 (lbt rfl)];rfl
           replace S:=S.drop1
           refine dX (S.grow (j:=1) (m:=1) (new:=ints [(a:Int)]) rfl Tryz.t42.1 XB (by decide) Tryz.t42.2.2.2.2.2 f rfl (by decide) rfl (by rw [bD,bD];simp;omega)) ?_
           clear S f;rintro G d S
           simp only [LC]at S
           rw [<-ia]at S
           simp only [BS,LB,Nat.reduceLT,Nat.reduceEqDiff,t,w]
           refine Y (i+1) _ _ (by omega) ⟨by omega,d,E,_,ks,S,I a ks E d g G (by unfold lZ;rw [ps]) (by unfold mj;rw [ps]) S,by simp [lo],by omega,by simp [aa,s],by simp [aa],by simp [aa,D],by simp [aa]⟩
         . simp only [BS]
           refine ar (ay rfl) (q:=0) (ps:=[]) (by kernel_rfl) ?_
           simp only [BS,LB,cls,Nat.reduceLT,Nat.reduceEqDiff,Nat.reduceAdd,Nat.reducePow,Nat.reduceDiv,Nat.reduceMod,Nat.reduceLeDiff,FG,s,D,t,O,P.lenq,aq,y,x1,J,R,F,Q,wa]
           refine T (a+1) _ _ (by omega) ⟨rfl,by omega,fun j H af=>?_,by simp [aa,s],by simp [aa,C],by simp [aa,D],by simp [aa,t],by simp [aa]⟩
           by_cases e:j=a
           . subst e;exact Q
           . exact U j H (by omega)
       . have ea:a=ks.length:=by omega
         subst ea
         have ps:=pos_no (ks:=ks) (x:=x) (fun j H=>U j H H)
         simp only [BS]
         refine ar (ay rfl) (q:=0) (ps:=[]) (by kernel_rfl) ?_
         simp only [BS,LB,cls,ae,Nat.reduceLT,Nat.reduceEqDiff,Nat.reduceAdd,Nat.reducePow,Nat.reduceDiv,Nat.reduceMod,Nat.reduceLeDiff,FG,s,C,D,t,O,P.lenq,aq,y,R,F]
         refine ag (bj (by exact Tryz.t42.1) (by exact XB) (by decide) (by rfl)) S ?_;clear S;intro h K S L;simp only [LC,aR,bo,ah,Nat.reduceMul,Nat.reduceAdd,Xi,Xg,Xk,Xm]at S
         simp only [BS,LB,Nat.reduceLT,Nat.reduceEqDiff]
         have f:aI h 1 (.slice (some ⟨K,0,none⟩) 1 1)=some (1,ints [x]):=by simp only [aI];rw [S.lds (b:=K) (o:=0) (n:=1*1) m0 (lbt rfl)];rfl
         replace S:=S.drop1
         refine dX (S.grow (j:=0) (m:=1) (new:=ints [x]) rfl Tryz.t42.1 XB (by decide) Tryz.t42.2.2.2.2.2 f rfl (by decide) rfl (by rw [bD,bD];simp;omega)) ?_
         clear S f;rintro G u S
         simp only [LC]at S
         rw [<-ia]at S
         simp only [BS,LB,Nat.reduceLT,Nat.reduceEqDiff,C,O]
         refine ag (bj (by exact Tryz.t42.1) (by exact XB) (by decide) (by rfl)) S ?_;clear S;intro h bu S ad;simp only [LC,aR,bo,ah,Nat.reduceMul,Nat.reduceAdd,Xi,Xg,Xk,Xm]at S
         simp only [BS,LB,Nat.reduceLT,Nat.reduceEqDiff]
         have f:aI h 1 (.slice (some ⟨bu,0,none⟩) 1 1)=some (1,ints [((ks.length:Nat):Int)]):=by simp only [aI];rw [S.lds (b:=bu) (o:=0) (n:=1*1) m0 (lbt rfl)];rfl
         replace S:=S.drop1
         refine dX (S.grow (j:=1) (m:=1) (new:=ints [((ks.length:Nat):Int)]) rfl Tryz.t42.1 XB (by decide) Tryz.t42.2.2.2.2.2 f rfl (by decide) rfl (by rw [bD,bD];simp;omega)) ?_
         clear S f;rintro G d S
         simp only [LC]at S
         rw [<-ia]at S
         simp only [BS,LB,Nat.reduceLT,Nat.reduceEqDiff,t,w]
         refine Y (i+1) _ _ (by omega) ⟨by omega,d,u,_,_,S,I ks.length _ u d g G (by unfold lZ;rw [ps]) (by unfold mj;rw [ps]) S,by simp [lo],by simp;omega,by simp [aa,s],by simp [aa],by simp [aa],by simp [aa]⟩
     . exact⟨rfl,Xl _,fun j H h=>absurd h (by omega),by simp [aa,s],by simp [aa,C],by simp [aa,D],by simp [aa,t],by simp [aa]⟩
   . have X:i=l.length:=by omega
     simp only [BS,LB,ae,Nat.reduceLT,Nat.reduceEqDiff,FG,s,C,t,M.lenq,aq,hlt]
     rw [X,List.drop_length,norm,XD]at hnm
     rw [hnm]
     exact⟨S.gr,(S.gown _ m1).1.sl rfl (fun _=>rfl) (by decide),fun c hc=>((S.gblk m1 hc).1).elim (fun h=>h) (fun h=>h.elim)⟩
 . exact⟨Xl _,_,_,[],[],S,rfl,rfl,Xz _,by simp [aa,cD],by simp [aa],by simp [aa],by simp [aa]⟩
end Go.Ab
end

/- Nets, cells, flags: what the functions do (part 3). -/
import Derived.Test.YtnandelhggbchaaGreatDoorNetB
open Go.Ab.Tryz
open Go.Ab.Tryz renaming abEnv->zM,e3E->XL,e94E->X4
open Nat renaming le_trans->zO,lt_of_succ_le->Xd,mul_one->Xn,zero_mul->Xr,zero_add->Xs,one_mul->Xv,le_refl->Xw,zero_le->XC,mul_le_mul_right->XH,le_total->XQ,zero_ne_one->XT,le_of_lt->X5
open List renaming getD_eq_getElem?_getD->Xa,replicate->Xb,getElem?_eq_getElem->Xc,range->Xe,flatMap_eq_foldl->Xf,mem_cons_of_mem->Xg,take->Xh,drop->Xi,length_map->Xl,getElem?_eq_none->Xm,mem_append_left->Xo,getElem_mem->Xp,drop_zero->Xq,mem_append_right->Xt,map_eq_flatMap->Xx,take_append_of_le_length->Xy,getElem?_map->Xz,length_range->XA,all_cons->XB,all_nil->XD,take_of_length_le->XE,take_succ_eq_append_getElem->XF,length_set->XI,flatMap_append->XK,ext_getElem?->XM,flatMap_cons->XN,drop_eq_getElem_cons->XO,getElem?_append_left->XP,cons_append->XR,append_nil->XU,length_singleton->XV,mem_cons->XW,map_cons->XX,take_replicate->XY,replicate_zero->XZ,map_congr_left->X2,take_succ_cons->X3,map_map->X6
open Int renaming cast_ofNat_Int->Xj,toNat_natCast->Xu
open Bool renaming and_true->Xk
open Option renaming getD_some->XG,map_some->XJ,getD_none->XS
set_option maxHeartbeats 4000000
set_option linter.defProp false
set_option linter.unusedVariables false
set_option linter.unusedSimpArgs false
section
namespace Go.Ab
open Go.Proofs
set_option maxRecDepth 10000
def Tryz.Fm:=aj t1<|aj t2<|aj t3<|aj t4<|aj t5<|aj t6<|aj Z3<|aj t24<|aj Z0<|aj t32<|aj t33<|aj t48<|aj t74<|aj Z14<|aj Z2<|aj t189<|aj Z1<|aj t196<|aj t217<|aj t237<|aj t275<|aj Z20<|Z8
theorem fo.close{M:Nat->Prop}{h0 h:Hp}{e f g i d N:Nat}{F:List Nat}{j a b vE:Value}{σ:SS}(S:St M h0 h (srL e f g i N j (ptrTo d) a b vE σ) (srG vE σ))(H:cN h F (ptrTo d) N σ.K)(k: ∀c∈F,c∉keys (srL e f g i N j (ptrTo d) a b vE σ) (srG vE σ)):
 fo h (keys (srL e f g i N j (ptrTo d) a b vE σ) (srG vE σ)++F) e j a b N σ:=
 ⟨f,g,i,d,F,vE,rfl,fun q l=>(S.own q l).2,(S.gown _ m0).1,S.apart,H,k⟩
theorem fo.open{h:Hp}(k:h.t.Sized h.n){B:List Nat}{i N:Nat}{j a b:Value}{σ:SS}(r:fo h B i j a b N σ): ∃e f g d F vE,B=keys (srL i e f g N j (ptrTo d) a b vE σ) (srG vE σ)++F/\St (· ∈B) h h (srL i e f g N j (ptrTo d) a b vE σ) (srG vE σ)/\cN h F (ptrTo d) N σ.K/\ ∀c∈F,c∉keys (srL i e f g N j (ptrTo d) a b vE σ) (srG vE σ):=by
 obtain⟨e,f,g,d,F,vE,rfl,l,m,n,o,q⟩:=r
 exact⟨e,f,g,d,F,vE,rfl,St.ofHas k l (fun p s=>by cases s with|head=>exact m|tail _ h=>cases h) n (fun c t=>Xo _ t),o,q⟩
theorem yJ(pi:Nat->Int)(σ:SS)(v lab:Nat)(p:List Nat):(d7 pi σ v lab p).ev=σ.ev:=by
 unfold d7;split<;>rfl
theorem yv(A:List Arc)(al:Nat->Bool)(pi:Nat->Int)(v:Nat)(σ:SS)(a:Nat):(scan1 A al pi v σ a).ev.length<=σ.ev.length+1:=by
 unfold scan1
 split
 . rw [yJ];simp [evS]
 . omega
theorem sscan_ok {hq h0:Hp} (bo:hq.t.Sized hq.n) (gq:Gr hq h0) {d:Gra} (z:Good d) {nb E:Nat} (hn:aV hq nb (ptrTo E) d) {B:List Nat} {y u v s:Nat} {K N:FuncId} {σ:SS} {al:Nat->Bool} {pi:Nat->Int} (R:fo h0 B y (ptrTo E) (.func (.func K) #[] #[ptrTo u]) (.func (.func N) #[] #[ptrTo u]) d.nodes σ) (hB: ∀c∈B,hq.n<=c) (a2:AlF zM hq K u d.arcs.length al) (a3:PiF zM hq N u d.nodes pi) (hp: ∀v,v<d.nodes-> -(FAR:Int)<=pi v)
 (hv:v<d.nodes) (sv:Sv d.arcs d.nodes s al pi σ) (rm:Room σ v) (he:σ.ev.length<=10000):
 Ret zM 220 [ptrTo y,.int .i64 (v:Nat)] h0 fun _ h'=>Mo (· ∈B) h0 h'/\ ∃A,fo h' A y (ptrTo E) (.func (.func K) #[] #[ptrTo u]) (.func (.func N) #[] #[ptrTo u]) d.nodes (po d.arcs al pi v σ)/\ ∀c∈A,c∈B\/h0.n<=c:=by
 have ok:=gq.ok
 have n1:=z.n1
 have n2:=z.n2
 have wm:=om
 have hA: ∀a∈d.arcs,a.t<d.nodes/\a.w<=dh:=fun a G=>⟨(z.arcs a G).2.1,(z.arcs a G).2.2⟩
 have l0:h0.load y 0 1=some [ptrTo E]:=by
  obtain⟨U,W,X,Y,F,vE,rfl,D,_⟩:=R
  exact Row.load1 (show Row h0 y _ 1 from D _ m0) (o:=0) rfl
 have S:=Si ok
 refine ac (n:=62) (rs:=[]) rfl Tryz.e220 rfl rfl rfl (lbt rfl) ?_
 simp only [BS,LB,Nat.reduceLT,Nat.reduceEqDiff,Fm,l0]
 refine step_ret (wC S.ok (hn.gr gq) (by have:=z.many;omega) hv) ?_
 rintro vl D ⟨g,sl,r⟩
 have lB:=R.lt ok
 have R1:=R.gr g
 have a4:=g.ok
 have ol:=kD d.arcs Arc.s d.arcs.length v
 have bh:=z.many
 have bq:=g.n
 simp only [BS,LB,Nat.reduceLT,Nat.reduceEqDiff,Fm,sl.lenq]
 refine aQ (fun(i:Nat) V h=>i<=(outs d.arcs Arc.s d.arcs.length v).length/\ ∃A,Mo (· ∈B) D h/\fo h A y (ptrTo E) (.func (.func K) #[] #[ptrTo u]) (.func (.func N) #[] #[ptrTo u]) d.nodes (((outs d.arcs Arc.s d.arcs.length v).take i).foldl (scan1 d.arcs al pi v) σ)/\(∀c∈A,c∈B\/D.n<=c)/\
  V 0=ptrTo y/\V 1=.int .i64 (v:Nat)/\V 13=vl/\V 14=.int .i64 ((outs d.arcs Arc.s d.arcs.length v).length:Nat)/\V 15=.int .i64 i) (fun i=>(outs d.arcs Arc.s d.arcs.length v).length-i) ?_ 0 _ _ ?_
 . clear S l0
   intro i ih V hS ⟨hi,A,f,R',hB',r0,r1,r13,r14,r15⟩
   by_cases hlt:i<(outs d.arcs Arc.s d.arcs.length v).length
   . have a5: ∀c∈A,hq.n<=c:=fun c r=>(hB' c r).elim (hB c) (fun h=>by have:=gq.n;omega)
     have gh:Gr hq hS:=(gq.trans g).mo' f hB
     have a6:=sl.mo f (fun b hb O=>by have:=r b hb;have:=lB b O;omega)
     obtain⟨c,o,Z,ad⟩:=a6.ix (kd:=.i64) dG hlt
     have O:=iQ.1 (Xp hlt)
     have w:an .i64 ((i:Int)+1)=((i+1:Nat):Int):=by rw [wrap64]<;>omega
     have a7: ∀a∈(outs d.arcs Arc.s d.arcs.length v).take i,a<d.arcs.length/\(d.arcs.getD a default).s=v:=fun a G=>iQ.1 (List.mem_of_mem_take G)
     obtain⟨Q,ki⟩:=Sv.scanL hA _ sv rm a7
     have af:=rm.keeps ki
     have bc:(((outs d.arcs Arc.s d.arcs.length v).take i).foldl (scan1 d.arcs al pi v) σ).ev.length<=10000+i:=by
      have: ∀(l:List Nat) (σ:SS),(l.foldl (scan1 d.arcs al pi v) σ).ev.length<=σ.ev.length+l.length:=by
       intro l
       induction l with
       |nil=>intro σ;simp
       |cons a l ih=>intro σ;have D:=ih (scan1 d.arcs al pi v σ a);have h2:=yv d.arcs al pi v σ a;simp only [List.foldl_cons,List.length_cons];omega
      have D:=this ((outs d.arcs Arc.s d.arcs.length v).take i) σ
      rw [List.length_take]at D
      omega
     have tk:(outs d.arcs Arc.s d.arcs.length v).take (i+1)=(outs d.arcs Arc.s d.arcs.length v).take i++[(outs d.arcs Arc.s d.arcs.length v)[i]]:=by rw [List.take_add_one,Xc hlt];rfl
     have I:((outs d.arcs Arc.s d.arcs.length v).take (i+1)).foldl (scan1 d.arcs al pi v) σ=scan1 d.arcs al pi v (((outs d.arcs Arc.s d.arcs.length v).take i).foldl (scan1 d.arcs al pi v) σ) (outs d.arcs Arc.s d.arcs.length v)[i]:=by rw [tk,List.foldl_append];rfl
     generalize(((outs d.arcs Arc.s d.arcs.length v).take i).foldl (scan1 d.arcs al pi v) σ)=t at R' Q ki af bc I
     generalize(outs d.arcs Arc.s d.arcs.length v)[i]=a at O ad I
     obtain⟨G,bt⟩:=O
     obtain⟨U,W,X,Y,F,vE,T,S,H,hF⟩:=R'.open f.ok
     have bu:=R'.lt f.ok
     have J: ∀c∈keys (srL y U W X d.nodes (ptrTo E) (ptrTo Y) (.func (.func K) #[] #[ptrTo u]) (.func (.func N) #[] #[ptrTo u]) vE t) (srG vE t),c∈A:=fun c r=>by rw [T];exact Xo _ r
     have bd: ∀c∈F,c∈A:=fun c r=>by rw [T];exact Xt _ r
     have lF:=H.lt f.ok
     replace S:=S.base
     generalize bv:keys (srL y U W X d.nodes (ptrTo E) (ptrTo Y) (.func (.func K) #[] #[ptrTo u]) (.func (.func N) #[] #[ptrTo u]) vE t) (srG vE t)=KK at S J hF T
     unfold srL srG at S
     simp only [BS,LB,Nat.reduceLT,Nat.reduceEqDiff,Fm,r0,r13,r14,r15,aA,hlt,Z,ad,ce,S.ld (b:=y) (o:=5) m0 rfl]
     refine am (a2 _ gh a G) ?_;intro h' g';replace S:=S.call g'
     have bx:=g'.n
     cases P:al a with
     | false=>
       simp only [BS,LB,Nat.reduceLT,Nat.reduceEqDiff,r15,w]
       refine ih (i+1) _ _ (by omega) ⟨by omega,A,f.trans (M':=NoM) g'.fr (fun _ h=>h.elim),?_,hB',by simp [aa,r0,ae],by simp [aa,r1],by simp [aa,r13],by simp [aa,r14],by simp [aa]⟩
       rw [I]
       unfold scan1
       rw [P,if_neg Bool.false_ne_true]
       exact R'.gr g'
     | true=>
       have bB:Fl vE:=(S.gown _ m0).1.fl
       simp only [BS,LB,Nat.reduceLT,Nat.reduceEqDiff,Nat.reduceAdd,Fm,r0,S.ld (b:=y) (o:=7) m0 rfl]
       refine ag (bI (by exact Tryz.t48.1) (by exact X4) (by decide) (by rfl)) S ?_;clear S;intro h bs S bi;simp only [LC,aT,bA,ah,Nat.reduceMul,Nat.reduceAdd,Xr,Xs,Xn,Xv]at S
       simp only [BS,LB,Nat.reduceLT,Nat.reduceEqDiff]
       have ai:aJ h 4 (.slice (some ⟨bs,0,none⟩) 1 1)=some (1,jx ⟨1,a,0⟩):=by simp only [aJ];rw [S.lds (b:=bs) (o:=0) (n:=1*4) m0 (lbt rfl)];rfl
       replace S:=S.drop1
       refine dA (S.grow (j:=0) (m:=1) (new:=jx ⟨1,a,0⟩) rfl Tryz.t48.1 X4 (by decide) Tryz.t48.2.2.2.2.2 ai rfl (by decide) rfl (by rw [bC tS];show(_+4)*_<=_;omega)) ?_
       clear S ai;rintro h2 C S
       simp only [LC]at S
       have ak:Fl C:=(S.gown _ m0).1.fl
       simp only [BS,LB,Nat.reduceLT,Nat.reduceEqDiff,Fm]
       refine ay (az S (i:=0) rfl Tryz.t48.2.2.1 ak (Xd (lbt rfl)) ono) ?_
       clear S;rintro h3 ⟨S,_⟩
       simp only [LC]at S
       have eE:(t.ev++[(⟨1,a,0⟩:Ev)]).flatMap jx=t.ev.flatMap jx++jx ⟨1,a,0⟩:=by rw [XK];simp
       rw [<-eE]at S
       simp only [BS,LB,Nat.reduceLT,Nat.reduceEqDiff,Fm,r0,S.ld (b:=y) (o:=0) m0 rfl]
       have aL: ∀c∈KK,hq.n<=c:=fun c r=>a5 c (J c r)
       refine step_ret (kL S.ok (hn.gr (gh.mo' S.fr aL)) G) ?_
       rintro rv h4 ⟨g4,rfl⟩
       replace S:=S.call g4;clear g4
       have ga:d.arcs[a]=d.arcs.getD a default:=by simp [Xa,G]
       have a0:=hA (d.arcs.getD a default) (by rw [<-ga];exact Xp G)
       have lv:=af.2.1
       have bE:t.O.length*dh<=12*dh:=XH _ (zO Q.len n2)
       rw [ga]
       simp only [BS,LB,Nat.reduceLT,Nat.reduceEqDiff,Fm,cP]
       refine ag ax S ?_;clear S;intro h b6 S bm
       simp only [BS,LB,Nat.reduceLT,Nat.reduceEqDiff]
       refine ay (S.store (i:=0) rfl ?_ ?_ rfl rfl ?_ ono) ?_
       . exact(by exact Tryz.t99.2.1)
       . exact(by intro x e;cases e)
       . exact lbt rfl
       clear S;rintro h ⟨S,mo⟩;clear mo;simp only [LC,ah,lay,Xh,Xi,Nat.reduceAdd]at S
       simp only [BS,LB,Nat.reduceLT,Nat.reduceEqDiff]
       have lL:=(S.row (b:=U) m2).load1 (sF (L:=t.L) hv)
       have wn:an .i64 ((t.L v:Int)+((d.arcs.getD a default).w:Int))=((t.L v+(d.arcs.getD a default).w:Nat):Int):=by rw [wrap64]<;>omega
       refine aw (aB rfl) (q:=0) (ps:=[]) (by kernel_rfl) ?_
       simp only [BS,LB,cls,Nat.reduceLT,Nat.reduceEqDiff,Nat.reduceAdd,Nat.reducePow,Nat.reduceDiv,Nat.reduceMod,Nat.reduceLeDiff,Fm,r0,r1,wn,hv,lL,S.ld (b:=y) (o:=2) m1 rfl,S.ld (b:=b6) (o:=1) m0 rfl,S.ld (b:=b6) (o:=2) m0 rfl]
       have kn:=fun c r=>(S.key_own (b:=c) r).symm
       have kf:=S.fr
       have gx:=gh.mo' S.fr aL
       have be: ∀c∈F,c∉keys (srL y U W X d.nodes (ptrTo E) (ptrTo Y) (.func (.func K) #[] #[ptrTo u]) (.func (.func N) #[] #[ptrTo u]) C (evS t ⟨1,a,0⟩)) (srG C (evS t ⟨1,a,0⟩)):=fun c r O=>by
        rcases kn c (Xg _ O)with D|D
        . exact hF c r D
        . have:=lF c r;omega
       have R2:=fo.close (σ:=evS t ⟨1,a,0⟩) (vE:=C) S.drop1 (H.mo kf (fun c r O=>hF c r O)) be
       have a1: ∀c∈keys (srL y U W X d.nodes (ptrTo E) (ptrTo Y) (.func (.func K) #[] #[ptrTo u]) (.func (.func N) #[] #[ptrTo u]) C (evS t ⟨1,a,0⟩)) (srG C (evS t ⟨1,a,0⟩))++F,c∈A\/hS.n<=c:=fun c r=>by
        rcases List.mem_append.1 r with r|r
        . exact(kn c (Xg _ r)).imp (J c) (fun h=>h)
        . exact .inl (bd c r)
       refine da (we (p:=a::t.P v) (lab:=t.L v+(d.arcs.getD a default).w) gx R2 a3 n2 a0.1 (by omega) (hp _ a0.1) (fun k hk=>(Q.op _ k hk).2.2.2)) ?_
       rintro rv h5 ⟨f5,B3,R3,bf⟩
       simp only [BS,LB,Nat.reduceLT,Nat.reduceEqDiff,Nat.reduceAdd,r15,w]
       have nh:=f.n
       have nx:=kf.n
       have gB: ∀c,c∈A\/hS.n<=c->c∈B\/D.n<=c:=fun c r=>r.elim (hB' c) (fun h=>.inr (by omega))
       refine ih (i+1) _ _ (by omega) ⟨by omega,B3,(f.trans kf (fun c r=>gB c (.inl (J c r)))).trans f5 (fun c r=>gB c (a1 c r)),?_,fun c r=>gB c ((bf c r).elim (a1 c) (fun h=>.inr (by omega))),by simp [aa,r0,ae],by simp [aa,r1],by simp [aa,r13],by simp [aa,r14],by simp [aa]⟩
       rw [I]
       unfold scan1
       rw [P,if_pos rfl]
       exact R3
   . have ei:i=(outs d.arcs Arc.s d.arcs.length v).length:=by omega
     simp only [BS,LB,Nat.reduceLT,r14,r15,aA,hlt]
     refine⟨(g.fr (M:=(· ∈B))).trans f (fun c r=>.inl r),A,?_,fun c r=>(hB' c r).imp (fun h=>h) (fun h=>by omega)⟩
     rw [ei,List.take_length]at R'
     exact R'
 . exact⟨XC _,B,Mo.refl a4,R1,fun c r=>.inl r,by simp [aa,aP,ae],by simp [aa,aP,bW],by simp [aa],by simp [aa],by simp [aa]⟩
def Tryz.F0q:=aj t1<|aj t2<|aj t3<|aj t4<|aj t6<|aj Z3<|aj t33<|t250
def Tryz.Fv:=aj t1<|aj t2<|aj t3<|aj t4<|aj t24<|aj Z0<|aj t32<|aj t33<|aj t48<|aj t74<|aj Z14<|aj Z2<|aj t189<|aj Z1<|aj t196<|aj t217<|aj t237<|aj t275<|aj Z20<|Z8
def IterW(E:Env)(g:FuncId)(post:List Value)(h0:Hp)(D W:Nat->Prop)(xs:List (List Value)):Prop:=
 ∀a J Z,(∀v h,¬Z (.pan v) h)->Yld E a J Z xs->(∀i h F c,J i h F->Mo W h c->J i c F)-> ∀h F,ItS h0 D h F->(∀b,W b->h.get b=h0.get b)->(∀b∈F,¬W b)->J 0 h F->fk E g ([]++[.func (.yield a) #[] #[]]++post) none h (YQ J Z xs.length)
theorem iter_w{E:Env}{g:FuncId}{post:List Value}{h0:Hp}{D:Nat->Prop}{xs:List (List Value)}(H:kU E g [] post h0 D xs):IterW E g post h0 D NoM xs:=fun a J Z b Y _ h F s _ _ c=>H a J Z b Y h F s c
theorem tT(l:List Nat):(l.flatMap ce).length=l.length:=by rw [bC dG];omega
theorem qj{h:Hp}{p:GL}(g:eZ h p){c:Nat}(a:ar p.1 c):dU p=some c:=by
 rcases g with⟨e,_⟩|⟨b,n,e,_⟩
 . rw [e]at a;exact a.elim
 . obtain⟨v,k,d⟩:=p
   simp only []at e a
   subst e
   exact congrArg some a
theorem xu{h0:Hp}(Z:h0.t.Sized h0.n){g:FuncId}{post:Array Value}{D W:Nat->Prop}{xs:List Nat}(it:IterW zM g post.toList h0 D W (xs.map fun(x:Nat)=>[.int .i64 x]))(J: ∀b,W b->b<h0.n)(hn:xs.length<100000):
 Ret zM 253 [.slice none 0 0,.func (.func g) #[] post] h0 fun r l=>Mo W h0 l/\eZ l (r,1,xs.flatMap ce)/\ ∀c,ar r c->h0.n<=c:=by
 have S:=Si Z
 refine ac (n:=13) (rs:=[.tmp 4]) rfl Tryz.e253 rfl rfl rfl (lbt rfl) ?_
 simp only [BS,Nat.reduceLT]
 refine ag (bN (by exact bj)) S ?_;clear S;intro h p S u
 simp only [BS,Nat.reduceLT,Nat.reduceEqDiff,if_false]
 replace S:=S.nilG (k:=1)
 have K:=S.gr
 replace S:=S.monoM (M:=W)
 have E:=S.fr
 refine fT S (g:=g) (a:=#[]) (b:=post) (by simp [ca,aa,aP,bW]) rfl rfl ?_
 intro G v t q ad af N
 obtain⟨X,O,q⟩: ∃X:ez,X=_/\St W h0 G [(t,.loop X),(v,.dfr),(p,.row [.slice none 0 0] 1)] [(.slice none 0 0,1,[])]:=⟨_,rfl,q⟩
 have P: ∀c,h0.n<=c-> ¬W c:=fun c h H=>by have:=J c H;omega
 have hJ:Yld zM t (fun k l F=> ∃(e:Value),St W h0 l [(t,.loop X),(v,.dfr),(p,.row [e] 1)] [(e,1,(xs.take k).flatMap ce)]/\k<=xs.length/\(∀c∈F,h0.n<=c)/\F=keys [(t,.loop X),(v,.dfr),(p,.row [e] 1)] [(e,1,(xs.take k).flatMap ce)]) (fun _ _=>False) (xs.map fun(x:Nat)=>[.int .i64 x]):=by
  refine⟨?_,?_,fun _ _ h=>h.elim,?_⟩
  . rintro i h F ⟨e,S,_,_,rfl⟩;exact⟨S.ok,fun b f=>S.key_lt f⟩
  . rintro i h F l ⟨e,S,a,b,rfl⟩ C;exact⟨e,S.call C,a,b,rfl⟩
  . rintro i x hR F w ⟨e,S,a,b,rfl⟩
    have z:i<xs.length:=by
     have:=(List.getElem?_eq_some_iff.1 w).1
     simpa using this
    rw [Xz,Xc z]at w
    cases w
    have tk:(xs.take (i+1)).flatMap ce=(xs.take i).flatMap ce++[.int .i64 (xs[i]:Nat)]:=by rw [List.take_add_one,Xc z,XK];rfl
    have tl:(xs.take i).length<=i:=by rw [List.length_take];omega
    subst O
    refine fS (S.get m0) (by rw [Tryz.e253];rfl) rfl ?_
    have Q:=S
    replace S:=S.base
    simp only [BS,LB,Nat.reduceLT,Nat.reduceEqDiff]
    refine eX S (i:=0) rfl rfl rfl rfl rfl ?_
    clear S;intro h S
    simp only [LC]at S
    simp only [BS,LB,Nat.reduceLT,Nat.reduceEqDiff,F0q,S.ld (b:=p) (o:=0) m2 rfl]
    refine ag (bI (by exact Tryz.t33.1) (by exact XL) (by decide) (by rfl)) S ?_;clear S;intro h R S U;simp only [LC,aT,bA,ah,Nat.reduceMul,Nat.reduceAdd,Xr,Xs,Xn,Xv]at S
    simp only [BS,LB,Nat.reduceLT,Nat.reduceEqDiff]
    have A:aJ h 1 (.slice (some ⟨R,0,none⟩) 1 1)=some (1,[.int .i64 (xs[i]:Nat)]):=by simp only [aJ];rw [S.lds (b:=R) (o:=0) (n:=1*1) m0 (lbt rfl)];rfl
    replace S:=S.drop1
    refine dA (S.grow (j:=0) (m:=1) (new:=[.int .i64 (xs[i]:Nat)]) rfl Tryz.t33.1 XL (by decide) Tryz.t33.2.2.2.2.2 A rfl (by decide) rfl (by rw [tT];simp;omega)) ?_
    clear S A;rintro h B S
    simp only [LC]at S
    have fv:Fl B:=(S.gown _ m0).1.fl
    simp only [BS,LB,Nat.reduceLT,Nat.reduceEqDiff]
    refine ay (az S (i:=2) rfl Tryz.t33.2.2.1 fv (Xd (lbt rfl)) ono) ?_
    clear S;rintro h ⟨S,_⟩
    simp only [LC]at S
    simp only [BS]
    refine dE S (i:=0) rfl ?_
    clear S;intro h S
    simp only [LC]at S
    rw [<-tk]at S
    have I:=Q.rebase S
    refine .inl ⟨rfl,_,⟨B,I,by omega,fun c d=>?_,rfl⟩,S.fr,fun c d=>(S.key_own d).symm⟩
    rcases S.key_own d with V|V
    . have:=Q.fr.n;omega
    . exact b c V
 have s: ∀c∈keys [(t,Ob.loop X),(v,.dfr),(p,.row [.slice none 0 0] 1)] [(.slice none 0 0,1,[])],h0.n<=c:=fun c d=>by
  have n2:=u
  have:=E.n
  simp [keys,dU]at d
  omega
 refine eB (it t _ _ (fun _ _ h=>h) hJ ?_ G _ ?_ ?_ (fun c d=>P c (s c d)) ⟨_,q,XC _,s,rfl⟩) fun o rc l y=>iI y ?_
 . rintro i h F l ⟨e,S,a,b,rfl⟩ C
   exact⟨e,S.step C (fun c d=>.inl d) (fun c d H=>P c (b c d) H),a,b,rfl⟩
 . have C:Mo W h0 G:=q.fr
   exact⟨q.ok,q.fr.n,fun b f _=>(K.trans N).get b f,fun b f h=>by have:=s b f;omega,fun b f=>q.key_lt f⟩
 . exact fun b f=>(K.trans N).get b (J b f)
 . rintro F ⟨e,T,a,b,rfl⟩
   rw [Xl,List.take_length]at T b
   subst O
   refine⟨_,T.get m0,XT,?_⟩
   replace T:=T.dead
   have S:=T
   show Run _ _ _ _ _ _ _ _
   simp only [BS,LB,Nat.reduceLT,Nat.reduceEqDiff,F0q,S.ld (b:=p) (o:=0) m1 rfl]
   refine dC (fi [v] _ (L:=[(p,_)]) T.base fun h3 Y=>⟨rfl,_,rfl,?_⟩)
   refine⟨(T.fr.trans Y.fr (fun c d=>(T.key_own d).symm):Mo W h0 h3),(Y.gown _ m0).1,fun x w=>?_⟩
   refine b x ?_
   have:dU (e,1,xs.flatMap ce)=some x:=qj (T.gown _ m0).1 w
   exact fI m0 this
theorem sS{h0:Hp}(d:h0.t.Sized h0.n){g:FuncId}{post:Array Value}{D W:Nat->Prop}{xs:List Nat}(e:IterW zM g post.toList h0 D W (xs.map fun(x:Nat)=>[.int .i64 x]))(i: ∀b,W b->b<h0.n)(j:xs.length<100000):
 Ret zM 218 [.func (.func g) #[] post] h0 fun r a=>Mo W h0 a/\eZ a (r,1,xs.flatMap ce)/\ ∀c,ar r c->h0.n<=c:=by
 have S:=Si d
 refine ac (n:=5) (rs:=[.tmp 2]) rfl Tryz.e218 rfl rfl rfl (lbt rfl) ?_
 simp only [BS,LB,Nat.reduceLT,Nat.reduceEqDiff]
 refine step_ret (xu S.ok e i j) ?_
 rintro r h ⟨f,q⟩
 simp only [BS,LB,ab,Nat.reduceLT,Nat.reduceEqDiff]
 exact⟨f,q⟩
theorem sback_ok{h0:Hp}(f:h0.t.Sized h0.n){d v:Nat}:Ret zM 219 [ptrTo d,.int .i64 v] h0 fun r c=>Gr h0 c/\ ∃b1 b2,r=.func (.func 254) #[] #[ptrTo b1,ptrTo b2]/\h0.n<=b1/\h0.n<=b2/\b1≠b2/\c.load b1 0 1=some [ptrTo d]/\Row c b2 [.int .i64 v] 1:=by
 have S:=Si f
 refine ac (n:=6) (rs:=[.tmp 4]) rfl Tryz.e219 rfl rfl rfl (lbt rfl) ?_
 simp only [BS,Nat.reduceLT]
 refine ag (bN (by exact ct)) S ?_;clear S;intro h b1 S a
 simp only [BS,Nat.reduceLT,Nat.reduceEqDiff,if_false]
 refine ag (bN (by exact bU)) S ?_;clear S;intro h b2 S b
 simp only [BS,LB,ab,Nat.reduceLT,Nat.reduceEqDiff]
 have g:=S.apart
 exact⟨S.gr,b1,b2,rfl,a,b,fun e=>(by subst e;simp [keys]at g),S.ld m1 rfl,S.row m0⟩
theorem back_it{hq h0:Hp}(W:hq.t.Sized hq.n)(X:Gr hq h0){g:Gra}(a0:Good g){nb z:Nat}(hn:aV hq nb (ptrTo z) g){B:List Nat}{t b1 b2 s:Nat}{m p:Value}{σ:SS}{al:Nat->Bool}{pi:Nat->Int}(R:fo h0 B t (ptrTo z) m p g.nodes σ)(O:Sv g.arcs g.nodes s al pi σ){k:Nat}(hu:k∈σ.O)
 (e1:h0.load b1 0 1=some [ptrTo t]) (e2:Row h0 b2 [.int .i64 k] 1) (d1:b2∉B) (d2:b1≠b2) (d3:hq.n<=b2):
 IterW zM 254 [ptrTo b1,ptrTo b2] h0 (fun c=>c=b1\/c∈B\/c<hq.n) (· =b2) ((σ.P k).map fun(a:Nat)=>[.int .i64 a]):=by
 intro lb J Z hz Y hW h F r w C D
 have f:=X.ok
 obtain⟨bl,E,bk,ph,F',A,rfl,hL,_⟩:=R
 have rr:Row h0 t _ 1:=hL _ m0
 have rb:Row h0 E (byC g.nodes σ.P) 1:=hL _ m2
 have G:t∈keys (srL t bl E bk g.nodes (ptrTo z) (ptrTo ph) m p A σ) (srG A σ)++F':=Xo _ (by simp [srL,keys])
 have Q:E∈keys (srL t bl E bk g.nodes (ptrTo z) (ptrTo ph) m p A σ) (srG A σ)++F':=Xo _ (by simp [srL,keys])
 generalize keys (srL t bl E bk g.nodes (ptrTo z) (ptrTo ph) m p A σ) (srG A σ)++F'=B at d1 G Q r
 have l0:=rr.load1 (o:=0) rfl
 have l3:=rr.load1 (o:=3) rfl
 have d:Row h b2 [.int .i64 k] 1:=Row.of_get (w b2 rfl) e2
 have q2:=d.load1 (o:=0) rfl
 have T:=O.lt k hu
 have H:=r.load f e1 (.inl rfl)
 have U:=r.load f l3 (.inr (.inl G))
 have V:=r.load f (rb.load1 (byC_at (P:=σ.P) T)) (.inr (.inl Q))
 refine enter (n:=39) (rs:=[]) rfl Tryz.e254 rfl rfl rfl (lbt rfl) ?_
 simp only [BS,LB]
 refine aw (aB rfl) (q:=0) (ps:=[]) (by kernel_rfl) ?_
 simp only [BS,LB,cls,Nat.reduceLT,Nat.reduceEqDiff,Nat.reduceAdd,Nat.reducePow,Nat.reduceDiv,Nat.reduceMod,Nat.reduceLeDiff,Fv,H,q2,U,V,T]
 refine aQ (fun(j:Nat) I h=>j<=(σ.P k).length/\ ∃u F,u∈σ.O/\σ.P u=(σ.P k).drop j/\ItS h0 (fun c=>c=b1\/c∈B\/c<hq.n) h F/\b2∉F/\J j h F/\Row h b2 [.int .i64 (u:Nat)] 1/\I 0=.func (.yield lb) #[] #[]/\I 1=ptrTo b1/\I 2=ptrTo b2/\I 4=.int .i64 (byI (σ.P u))) (fun j=>(σ.P k).length-j) ?_ 0 _ _ ?_
 . clear H q2 U V T d D C w r F h
   intro j ih I hS ⟨hj',u,F,hu',hP,r,C,D,d,r0,r1,r2,r4⟩
   have T:=O.lt u hu'
   rcases O.path u (.inl hu')with⟨_,e,_⟩|⟨a,ha,a1,ht,hs,e,_⟩
   . have ej:j=(σ.P k).length:=by
      rw [e]at hP
      have:=congrArg List.length hP
      rw [List.length_drop]at this
      simp at this;omega
     rw [e]at r4
     simp only [byI]at r4
     simp only [BS,LB,Nat.reduceLT,Nat.reduceEqDiff,Int.reduceLE,r4]
     exact bT (cG ⟨rfl,_,rfl,rfl,.inl ⟨_,F,rfl,by rw [Xl,<-ej];exact D⟩⟩)
   . have hlt:j<(σ.P k).length:=by
      rw [e]at hP
      have:=congrArg List.length hP
      rw [List.length_drop]at this
      simp at this;omega
     have K:(σ.P k)[j]=a/\(σ.P k).drop (j+1)=σ.P (g.arcs.getD a default).s:=by
      rw [e,XO hlt]at hP
      injection hP with h1 h2
      exact⟨h1.symm,h2.symm⟩
     have hx:((σ.P k).map fun(a:Nat)=>[Value.int .i64 a])[j]? =some [.int .i64 (a:Nat)]:=by rw [Xz,Xc hlt,K.1];rfl
     rw [e]at r4
     simp only [byI]at r4
     have c0:(0:Int)<=(a:Int):=by omega
     have ak:=d.lt r.ok
     simp only [BS,LB,Nat.reduceLT,Nat.reduceEqDiff,r0,r4,c0]
     refine cH Y r D (i:=j) hx ?_ ?_ ?_
     . intro L F2 ad l f2 af
       have y:Row L b2 [.int .i64 (u:Nat)] 1:=f2.has (o:=.row _ 1) d C
       have ai:b2∉F2:=fun hm=>(af b2 hm).elim C (fun h=>by omega)
       have S:=St.init1 l.ok (o:=.row _ 1) y
       have H:=l.load f e1 (.inl rfl)
       have q0:=l.load f l0 (.inr (.inl G))
       have U:=l.load f l3 (.inr (.inl G))
       have sN:=O.lt _ hs
       have V:=l.load f (rb.load1 (byC_at (P:=σ.P) sN)) (.inr (.inl Q))
       have nt:aV L nb (ptrTo z) g:=hn.keep W (l.keep (Gr.keep X) X.n (fun c hc=>.inr (.inr hc)))
       simp only [BS,LB,Nat.reduceLT,Nat.reduceEqDiff,Fv,r1,r4,H,q0]
       refine step_ret (kL S.ok nt ha) ?_
       rintro rv h4 ⟨g4,rfl⟩
       replace S:=S.call g4;clear g4
       have ga:g.arcs[a]=g.arcs.getD a default:=by simp [Xa,ha]
       rw [ga]
       have M: ∀{c},c=b1\/c∈B-> ¬c=b2:=fun hc e=>by subst e;exact hc.elim (fun h=>d2 h.symm) d1
       simp only [BS,LB,Nat.reduceLT,Nat.reduceEqDiff,Fv,cP]
       refine ag ax S ?_;clear S;intro h b5 S aL
       simp only [BS,LB,Nat.reduceLT,Nat.reduceEqDiff]
       refine ay (S.store (i:=0) rfl ?_ ?_ rfl rfl ?_ ono) ?_
       . exact(by exact Tryz.t99.2.1)
       . exact(by intro x e;cases e)
       . exact lbt rfl
       clear S;rintro h ⟨S,mo⟩;clear mo;simp only [LC,ah,lay,Xh,Xi,Nat.reduceAdd]at S
       simp only [BS,LB,Nat.reduceLT,Nat.reduceEqDiff,Fv,r2,S.ld (b:=b5) (o:=0) m0 rfl]
       refine ay (az S (i:=1) rfl ?_ ?_ ?_ ono) ?_
       . exact(by simp only [Fv])
       . exact(by exact bU)
       . exact Xd (lbt rfl)
       clear S;rintro h ⟨S,mo⟩;clear mo;simp only [LC,ah,lay,Xh,Xi,Nat.reduceAdd]at S
       have k1:=S.old H (M (.inl rfl))
       have k3:=S.old U (M (.inr G))
       have k4:=S.old V (M (.inr Q))
       simp only [BS]
       refine aw (aB rfl) (q:=0) (ps:=[]) (by kernel_rfl) ?_
       simp only [BS,LB,cls,Nat.reduceLT,Nat.reduceEqDiff,Nat.reduceAdd,Nat.reducePow,Nat.reduceDiv,Nat.reduceMod,Nat.reduceLeDiff,Fv,r1,r2,k1,k3,k4,sN,S.ld (b:=b2) (o:=0) m1 rfl]
       have N:=S.fr
       refine ih (j+1) _ _ (by omega) ⟨by omega,(g.arcs.getD a default).s,F2,hs,K.2.symm,?_,ai,hW _ _ _ _ ad N,S.row (by simp),by simp [aa,r0],by simp [aa,r1,ae],by simp [aa,r2,ae],by simp [aa]⟩
       exact⟨N.ok,zO l.n N.n,fun b w K=>(N.get b (Nat.lt_of_lt_of_le w l.n) (by rcases K with h|h|h;exact M (.inl h);exact M (.inr h);exact fun e=>by omega)).trans (l.data b w K),l.apart,fun b w=>Nat.lt_of_lt_of_le (l.lt b w) N.n⟩
     . intro L a' _
       simp only [BS,LB,Nat.reduceLT,Nat.reduceEqDiff]
       exact bT (cG ⟨rfl,_,rfl,rfl,.inr (.inl ⟨_,rfl,a'⟩)⟩)
     . intro v L a'
       exact absurd a' (hz v L)
 . exact⟨XC _,k,F,hu,by rw [Xq],r,fun hm=>C b2 hm rfl,D,d,by simp [aa,bV],by simp [aa,bV,ae],by simp [aa,bV,ae],by simp [aa]⟩
def Tryz.FM:=aj t1<|aj t2<|aj t3<|aj t4<|t33
def rvC(n k:Nat)(f:Nat->Value):List Value:=(Xe n).map fun p=>if p<k\/n<=p+k then f (n-1-p)else f p
theorem lV{n k:Nat}{f:Nat->Value}:(rvC n k f).length=n:=by simp [rvC]
theorem pS{n k i:Nat}{f:Nat->Value}(h:i<n):(rvC n k f)[i]? =some (if i<k\/n<=i+k then f (n-1-i)else f i):=jj (F:=fun p=>if p<k\/n<=p+k then f (n-1-p)else f p) h
theorem rvC_step{n k:Nat}{f:Nat->Value}(h:2*k+1<n):((rvC n k f).set k (f (n-1-k))).set (n-1-k) (f k)=rvC n (k+1) f:=by
 refine XM fun i=>?_
 rw [List.getElem?_set,List.getElem?_set,XI,lV]
 by_cases a:i<n
 . rw [pS a,pS a]
   by_cases b:n-1-k=i
   . subst b
     rw [if_pos rfl,if_pos a,if_pos (.inr (by omega)),show n-1-(n-1-k)=k by omega]
   . rw [if_neg b]
     by_cases d:k=i
     . subst d
       rw [if_pos rfl,if_pos a,if_pos (.inl (by omega))]
     . rw [if_neg d]
       congr 1
       by_cases c:i<k\/n<=i+k
       . rw [if_pos c,if_pos (by omega)]
       . rw [if_neg c,if_neg (by omega)]
 . rw [if_neg (by omega),if_neg (by omega)]
   rw [Xm (by rw [lV];omega),Xm (by rw [lV];omega)]
theorem rvC_zero{xs:List Nat}:xs.flatMap ce=rvC xs.length 0 fun p=>.int .i64 (xs.getD p 0:Nat):=by
 have e:xs.flatMap ce=xs.map fun(x:Nat)=>Value.int .i64 x:=by
  rw [Xf,Xx,Xf];rfl
 rw [e]
 refine XM fun i=>?_
 by_cases a:i<xs.length
 . rw [pS a,if_neg (by omega)];simp [a]
 . rw [Xm (by simpa using a),Xm (by rw [lV];omega)]
theorem rvC_done{xs:List Nat}{k:Nat}(h:xs.length<=2*k+1)(d:2*k<=xs.length):rvC xs.length k (fun p=>.int .i64 (xs.getD p 0:Nat))=xs.reverse.flatMap ce:=by
 have e:xs.reverse.flatMap ce=xs.reverse.map fun(x:Nat)=>Value.int .i64 x:=by
  rw [Xf,Xx,Xf];rfl
 rw [e]
 refine XM fun i=>?_
 by_cases b:i<xs.length
 . rw [pS b,Xz,List.getElem?_reverse b]
   have a:xs.length-1-i<xs.length:=by omega
   rw [Xc a]
   have g: ∀{j:Nat} (a:j<xs.length),xs.getD j 0=xs[j]:=fun a=>by simp [Xa,a]
   by_cases c:i<k\/xs.length<=i+k
   . rw [if_pos c,g a];rfl
   . rw [if_neg c]
     have:i=xs.length-1-i:=by omega
     rw [g b]
     simp only [XJ]
     congr 3
     simp only [<-this]
 . rw [Xm (by rw [lV];omega),Xm (by simpa using b)]
theorem z8{h0:Hp}(u:h0.t.Sized h0.n){v:Value}{xs:List Nat}(z:eZ h0 (v,1,xs.flatMap ce))(M:xs.length<1000000):
 Ret zM 123 [v] h0 fun _ w=>Mo (ar v) h0 w/\eZ w (v,1,xs.reverse.flatMap ce):=by
 rcases z with⟨g,j⟩|⟨b,n,g,j,t⟩
 . simp only []at g j
   subst g
   have:xs=[]:=by
    cases xs with
    |nil=>rfl
    |cons a l=>simp [ce]at j
   subst this
   have S:=Si u
   refine ac (n:=28) (rs:=[]) rfl Tryz.e123 rfl rfl rfl (lbt rfl) ?_
   simp only [BS,LB,Nat.reduceLT,Nat.reduceEqDiff,Int.reduceSub,Xj,FM]
   rw [cd]
   have A:an .i64 (-1)= -1:=rfl
   have B: ¬((0:Int)< -1):=by omega
   simp only [BS,LB,Nat.reduceLT,Nat.reduceEqDiff,A,B]
   exact⟨S.gr.fr,.inl ⟨rfl,rfl⟩⟩
 . simp only []at g j t
   subst g
   have C:n=xs.length:=by rw [tT]at j;omega
   subst C
   rw [rvC_zero]at t
   have S:=St.init1 u (o:=.row _ 1) t
   have D:an .i64 ((xs.length:Int)-1)=(xs.length:Int)-1:=by rw [wrap64]<;>omega
   refine ac (n:=28) (rs:=[]) rfl Tryz.e123 rfl rfl rfl (lbt rfl) ?_
   simp only [BS,LB,Nat.reduceLT,Nat.reduceEqDiff,FM,D]
   refine aQ (fun(k:Nat) r h=>2*k<=xs.length/\St (· =b) h0 h [(b,.row (rvC xs.length k fun p=>.int .i64 (xs.getD p 0:Nat)) 1)] []/\r 0=.slice (some ⟨b,0,some 1⟩) xs.length xs.length/\r 2=.int .i64 (k:Nat)/\r 3=.int .i64 ((xs.length:Int)-1-k)) (fun k=>xs.length-k) ?_ 0 _ _ ?_
   . clear S
     intro k E r N ⟨hk,S,r0,r2,r3⟩
     by_cases hlt:2*k+1<xs.length
     . have s:(k:Int)<(xs.length:Int)-1-k:=by omega
       have e:k<xs.length:=by omega
       have d:xs.length-1-k<xs.length:=by omega
       have F:(xs.length:Int)-1-k=((xs.length-1-k:Nat):Int):=by omega
       have G:an .i64 ((k:Int)+1)=((k+1:Nat):Int):=by rw [wrap64]<;>omega
       have H:an .i64 (((xs.length-1-k:Nat):Int)-1)=(xs.length:Int)-1-(k+1:Nat):=by rw [wrap64]<;>omega
       have x:=(S.row (b:=b) m0).load1 (pS e)
       have y:=(S.row (b:=b) m0).load1 (pS d)
       rw [if_neg (by omega)]at x y
       rw [F]at r3 s
       simp only [BS,LB,Nat.reduceLT,Nat.reduceEqDiff,r2,r3,s]
       refine aw (aB rfl) (q:=0) (ps:=[]) (by kernel_rfl) ?_
       simp only [BS,LB,cls,Nat.reduceLT,Nat.reduceEqDiff,Nat.reduceAdd,Nat.reducePow,Nat.reduceDiv,Nat.reduceMod,Nat.reduceLeDiff,FM,r0,r2,r3,e,d,x,y]
       refine dw (az S (i:=0) rfl Tryz.t3.2.2.1 bU (by rw [lV];exact e) ono) ?_
       clear S;rintro O ⟨S,I⟩
       simp only [LC]at S
       simp only [BS,LB,cls,Nat.reduceLT,Nat.reduceEqDiff,Nat.reduceAdd,Nat.reducePow,Nat.reduceDiv,Nat.reduceMod,Nat.reduceLeDiff,FM,d]
       refine dw (az S (i:=0) rfl Tryz.t3.2.2.1 bU (by rw [XI,lV];exact d) ono) ?_
       clear S;rintro P ⟨S,J⟩
       simp only [LC]at S
       have K:=rvC_step (f:=fun p=>.int .i64 (xs.getD p 0:Nat)) hlt
       rw [K]at S
       simp only [BS,LB,Nat.reduceLT,Nat.reduceEqDiff,Nat.reduceAdd,r2,r3,G,H]
       exact E (k+1) _ _ (by omega) ⟨by omega,S,by simp [aa,r0],by simp [aa],by simp [aa]⟩
     . have s: ¬(k:Int)<(xs.length:Int)-1-k:=by omega
       simp only [BS,LB,Nat.reduceLT,Nat.reduceEqDiff,r2,r3,s]
       have m:=S.row m0
       rw [rvC_done (by omega) hk]at m
       exact⟨S.fr.mono (fun c L=>Eq.symm L),.inr ⟨b,xs.length,rfl,by show xs.length*1=(xs.reverse.flatMap ce).length;rw [tT,List.length_reverse];omega,m⟩⟩
   . exact⟨by omega,S,by simp [aa,aP],by simp [aa],by simp [aa]⟩
def Tryz.Fq:=aj t1<|aj t2<|aj t3<|aj t4<|aj t5<|aj t6<|aj Z3<|aj Z4<|aj t9<|aj t10<|aj t11<|aj t24<|aj t32<|aj t33<|aj t48<|aj t74<|aj Z14<|aj t114<|aj r114<|aj Z1<|aj t196<|aj t217<|aj t237<|aj t250<|aj t275<|aj Z20<|aj Z7<|Z8
def zS:SS:=⟨fun _=>none,fun _=>0,fun _=>[],[],[]⟩
def FdAt(h:Hp)(m:Nat)(r:Value)(b:Fd):Prop:= ∃d a,r=.agg ⟨[.int .i64 (b.dist:Nat),d,a]⟩/\eZ h (d,1,b.arcs.flatMap ce)/\eZ h (a,4,b.ev.flatMap jx)/\(∀c,ar d c->m<=c/\ ¬ar a c)/\ ∀c,ar a c->m<=c
theorem ev_scanS(A:List Arc)(al:Nat->Bool)(pi:Nat->Int)(v:Nat)(σ:SS):(po A al pi v σ).ev.length<=σ.ev.length+A.length:=by
 have: ∀(l:List Nat) (σ:SS),(l.foldl (scan1 A al pi v) σ).ev.length<=σ.ev.length+l.length:=by
  intro l
  induction l with
  |nil=>intro σ;simp
  |cons a l b=>intro σ;have c:=b (scan1 A al pi v σ a);have d:=yv A al pi v σ a;simp only [List.foldl_cons,List.length_cons];omega
 have c:=this (outs A Arc.s A.length v) σ
 have d:=kD A Arc.s A.length v
 unfold po
 omega
theorem srun_ok {hq h0:Hp} (ad:hq.t.Sized hq.n) (gq:Gr hq h0) {g:Gra} (y:Good g) {nb C:Nat} (hn:aV hq nb (ptrTo C) g) {B0:List Nat} {u w s to:Nat} {D E:FuncId} {al:Nat->Bool} {pi:Nat->Int} (R0:fo h0 B0 u (ptrTo C) (.func (.func D) #[] #[ptrTo w]) (.func (.func E) #[] #[ptrTo w]) g.nodes zS) (af: ∀c∈B0,hq.n<=c) (a7:AlF zM hq D w g.arcs.length al) (ai:PiF zM hq E w g.nodes pi) (hp: ∀v,v<g.nodes-> -(FAR:Int)<=pi v)
 (hs:s<g.nodes) (b0:to<g.nodes):
 Ret zM 152 [ptrTo u,.int .i64 (s:Nat),.int .i64 (to:Nat)] h0 fun r h'=>Gr hq h'/\ ∃fd,Ends g.arcs al pi to (nH pi s) fd/\FdAt h' hq.n r fd:=by
 have ok:=gq.ok
 have n1:=y.n1
 have n2:=y.n2
 have bP:=y.many
 have wm:=om
 have fr:=mR
 have hA: ∀a∈g.arcs,a.t<g.nodes/\a.w<=dh:=fun a ha=>⟨(y.arcs a ha).2.1,(y.arcs a ha).2.2⟩
 have lB:=R0.lt ok
 have S:=Si ok
 refine ac (n:=79) (rs:=[.cell 6 114]) rfl Tryz.e152 rfl rfl rfl (lbt rfl) ?_
 simp only [BS,Fq]
 refine ag ax S ?_;clear S;intro h l S J
 simp only [BS,LB,Nat.reduceLT,Nat.reduceEqDiff]
 have K:=S.row (b:=l) m0
 have gA:=S.gr
 have bc:=S.ok
 have l6:=K.lt bc
 have n6:l∉B0:=fun h=>by have:=lB l h;have:=J;omega
 have q6:hq.n<=l:=zO gq.n J
 clear S
 rename Hp=>hA'
 have rc:Ret zM 217 [ptrTo u,.int .i64 (s:Nat),.int .i64 0,.int .i64 (-1)] hA' _:=we (p:=[]) (lab:=0) (gq.trans gA) (R0.gr gA) ai n2 hs (XC _) (hp s hs) (fun k h=>by cases h)
 refine step_ret rc ?_
 rintro r h1 ⟨f1,B1,R1,ak⟩
 clear rc
 simp only [BS]
 refine aQ (fun(σ:SS) ρ h=> ∃B,Mo (fun c=>c∈B0\/c=l) hA' h/\Row h l [.int .i64 0,.slice none 0 0,.slice none 0 0] 1/\fo h B u (ptrTo C) (.func (.func D) #[] #[ptrTo w]) (.func (.func E) #[] #[ptrTo w]) g.nodes σ/\(∀c∈B,c∈B0\/hA'.n<=c)/\Sv g.arcs g.nodes s al pi σ/\σ.ev.length<=σ.O.length*200/\(∀r,Ends g.arcs al pi to σ r->Ends g.arcs al pi to (nH pi s) r)/\ρ 0=ptrTo u/\ρ 1=.int .i64 (s:Nat)/\ρ 2=.int .i64 (to:Nat)/\ρ 6=ptrTo l) (fun σ=>g.nodes-σ.O.length) ?_ (nH pi s) _ _ ?_
 . clear R1 f1 ak B1 h1
   intro σ ih ρ hS ⟨B,f,row6',R,hB,sv,hev,hE,r0,r1,r2,r6⟩
   have P: ∀c∈B,hq.n<=c:=fun c d=>(hB c d).elim (af c) (fun h=>by have:=(gq.trans gA).n;omega)
   have gh:Gr hq hS:=(((gq.trans gA).fr (M:=NoM)).trans f (fun c d=>.inr (d.elim (af c) (fun e=>by subst e;exact q6)))).gr
   have Q:l∉B:=fun h=>(hB l h).elim n6 (fun h=>by omega)
   have ol:=sv.len
   have b3:σ.O.length*dh<=12*dh:=XH _ (zO ol n2)
   obtain⟨N,bb,bk,T,F,vE,aL,S,H,hF⟩:=R.open f.ok
   have a0: ∀c∈keys (srL u N bb bk g.nodes (ptrTo C) (ptrTo T) (.func (.func D) #[] #[ptrTo w]) (.func (.func E) #[] #[ptrTo w]) vE σ) (srG vE σ),c∈B:=fun c d=>by rw [aL];exact Xo _ d
   have U: ∀c∈F,c∈B:=fun c d=>by rw [aL];exact Xt _ d
   have lF:=H.lt f.ok
   replace S:=(S.base.mono (M':=fun c=>c∈B\/c=l) (fun c d=>.inl (a0 c d))).push (b:=l) (o:=.row _ 1) (.inr (.inr rfl)) row6' (fun h=>Q (a0 l h))
   have bd: ∀c∈F,c≠l:=fun c d e=>Q (by rw [<-e];exact U c d)
   have V: ∀c∈F,c∉keys ((l,Ob.row [.int .i64 0,.slice none 0 0,.slice none 0 0] 1)::srL u N bb bk g.nodes (ptrTo C) (ptrTo T) (.func (.func D) #[] #[ptrTo w]) (.func (.func E) #[] #[ptrTo w]) vE σ) (srG vE σ):=fun c d W=>(List.mem_cons.1 W).elim (bd c d) (hF c d)
   unfold srL srG at S
   simp only [BS,LB,Nat.reduceLT,Nat.reduceEqDiff,Fq,r0,S.ld (b:=u) (o:=1) m1 rfl]
   refine step_ret (uz S.ok H (by omega)) ?_
   rintro rv h2 (⟨rfl,X,be⟩|⟨v,k,rfl,hk,a1,f2,H2⟩)
   . replace S:=S.call be
     have Y:Fl vE:=(S.gown _ m0).1.fl
     simp only [BS,LB,Nat.reduceLT,Nat.reduceEqDiff,Nat.reduceAdd,Fq,r0,r6,Y,S.ld (b:=u) (o:=7) m1 rfl]
     refine ay (S.store (i:=0) rfl Tryz.t114.2.1 (by intro x e;cases e) rfl (by simp only [ah,XB,XD,Y.2.1,Xk];rfl) (lbt rfl) ono) ?_
     clear S;rintro h3 ⟨S,mo⟩
     simp only [LC,ah,lay,Xh,Xi,Nat.reduceAdd]at S
     simp only [BS,ab]
     refine(dg (by decide) (by simp only [aO,r6,ae,Nat.reduceEqDiff,reduceIte];exact cQ Tryz.t114.1 Tryz.t114.2.1 (S.lds (b:=l) (o:=0) (n:=3) m0 (lbt rfl)))).2 (dV.2 ?_)
     refine⟨(gh.fr (M:=NoM)).trans S.fr (fun c d=>.inr (d.elim (P c) (fun e=>by subst e;exact q6)))|>.gr,_,hE _ (.none X),.slice none 0 0,vE,rfl,.inl ⟨rfl,rfl⟩,(S.gown _ m0).1,fun c d=>d.elim,fun c d=>?_⟩
     have:=(S.gown _ m0).2 c (qj (S.gown _ m0).1 d)
     exact this.elim (fun h=>zO gh.n h) (fun h=>h.elim (P c) (fun e=>by subst e;exact q6))
   . have O:Pops σ.K v k:=⟨hk,a1⟩
     obtain⟨Z,nO,pv,ek⟩:=sv.op v k hk
     replace S:=S.stepF f2 (fun c d=>⟨.inl (.inl (U c d)),V c d⟩)
     have bv:=(sv.bd v).1
     have Sp:=S
     have bf:=H2.lt Sp.ok
     have kp: ∀c∈keys ((l,Ob.row [.int .i64 0,.slice none 0 0,.slice none 0 0] 1)::srL u N bb bk g.nodes (ptrTo C) (ptrTo T) (.func (.func D) #[] #[ptrTo w]) (.func (.func E) #[] #[ptrTo w]) vE σ) (srG vE σ),hS.n<=c\/c∈B\/c=l:=fun c d=>Sp.key_own d
     have kl:=fun {c} d=>Sp.key_lt (b:=c) d
     have np:=Sp.fr.n
     replace S:=S.base
     have Y:Fl vE:=(S.gown _ m0).1.fl
     simp only [BS,LB,Nat.reduceLT,Nat.reduceEqDiff,Fq,r0,Z,S.ld (b:=u) (o:=4) m1 rfl]
     refine ay (az S (i:=4) rfl Tryz.t4.2.2.1 oz (by rw [clC_len];exact Z) ono) ?_
     clear S;rintro h3 ⟨S,b4⟩
     simp only [LC]at S
     rw [clC_set]at S
     have lL:=(S.row (b:=N) m2).load1 (sF (L:=σ.L) Z)
     simp only [BS]
     refine aw (aB rfl) (q:=16384) (ps:=[]) (by kernel_rfl) ?_
     simp only [BS,LB,cls,Nat.reduceLT,Nat.reduceEqDiff,Nat.reduceAdd,Nat.reducePow,Nat.reduceDiv,Nat.reduceMod,Nat.reduceLeDiff,Fq,r0,Z,lL,S.ld (b:=u) (o:=7) m1 rfl,S.ld (b:=u) (o:=2) m1 rfl]
     refine dK (bI (by exact Tryz.t48.1) (by exact X4) (by decide) (by rfl)) S ?_;clear S;intro h bs S bX bY;simp only [LC,aT,bA,ah,Nat.reduceMul,Nat.reduceAdd,Xr,Xs,Xn,Xv]at S
     simp only [BS,LB,cls,Nat.reduceLT,Nat.reduceEqDiff,Nat.reduceAdd,Nat.reducePow,Nat.reduceDiv,Nat.reduceMod,Nat.reduceLeDiff]
     have a2:aJ h 4 (.slice (some ⟨bs,0,none⟩) 1 1)=some (1,jx ⟨0,v,σ.L v⟩):=by simp only [aJ];rw [S.lds (b:=bs) (o:=0) (n:=1*4) m0 (lbt rfl)];rfl
     replace S:=S.drop1
     refine dn_v (S.grow (j:=0) (m:=1) (new:=jx ⟨0,v,σ.L v⟩) rfl Tryz.t48.1 X4 (by decide) Tryz.t48.2.2.2.2.2 a2 rfl (by decide) rfl (by rw [bC tS];show(_+4)*_<=_;omega)) ?_
     clear S a2;rintro h2 t S
     simp only [LC]at S
     have A:Fl t:=(S.gown _ m0).1.fl
     simp only [BS,LB,cls,Nat.reduceLT,Nat.reduceEqDiff,Nat.reduceAdd,Nat.reducePow,Nat.reduceDiv,Nat.reduceMod,Nat.reduceLeDiff,Fq]
     refine dw (az S (i:=1) rfl Tryz.t48.2.2.1 A (Xd (lbt rfl)) ono) ?_
     clear S;rintro h3 ⟨S,_⟩
     simp only [LC]at S
     have eE:(σ.ev++[(⟨0,v,σ.L v⟩:Ev)]).flatMap jx=σ.ev.flatMap jx++jx ⟨0,v,σ.L v⟩:=by rw [XK];simp
     rw [<-eE]at S
     have bq: ∀c,hS.n<=c\/c∈B\/c=l->hq.n<=c:=fun c d=>d.elim (fun h=>zO gh.n h) (fun h=>h.elim (P c) (fun e=>by subst e;exact q6))
     have wq:=(((gh.fr (M:=NoM)).trans Sp.fr (fun c d=>.inr (bq c (.inr d)))).trans S.fr (fun c d=>.inr (bq c (kp c d)))).gr
     have G:=sv.close hk
     have kn:=fun {c} d=>S.key_own (b:=c) d
     have nS:=S.fr.n
     have bh: ∀c∈F,c∉keys (srL u N bb bk g.nodes (ptrTo C) (ptrTo T) (.func (.func D) #[] #[ptrTo w]) (.func (.func E) #[] #[ptrTo w]) t (dl σ v)) (srG t (dl σ v)):=fun c d W=>by
      rcases kn (Xg _ W)with h|h
      . have:=bf c d;omega
      . exact V c d h
     have Hc:cN _ F (ptrTo T) g.nodes (dl σ v).K:=H2.mo S.fr (fun c d W=>V c d W)
     have Rc:=fo.close (σ:=dl σ v) (vE:=t) S.drop1 Hc bh
     have I: ∀c∈keys (srL u N bb bk g.nodes (ptrTo C) (ptrTo T) (.func (.func D) #[] #[ptrTo w]) (.func (.func E) #[] #[ptrTo w]) t (dl σ v)) (srG t (dl σ v))++F,hS.n<=c\/c∈B:=fun c d=>by
      rcases List.mem_append.1 d with d|d
      . have ne:c≠l:=fun e=>by
         subst e
         exact(List.nodup_cons.1 S.apart).1 d
        rcases kn (Xg _ d)with h|h
        . exact .inl (by omega)
        . exact(kp c h).imp (fun h=>h) (fun h=>h.elim (fun h=>h) (fun e=>absurd e ne))
      . exact .inr (U c d)
     have a3: ∀c∈keys (srL u N bb bk g.nodes (ptrTo C) (ptrTo T) (.func (.func D) #[] #[ptrTo w]) (.func (.func E) #[] #[ptrTo w]) t (dl σ v)) (srG t (dl σ v))++F,hq.n<=c:=fun c d=>bq c ((I c d).imp (fun h=>h) .inl)
     have bi:=S.ok
     have k3:=fun {c} d=>S.key_lt (b:=c) d
     have bo: ∀c,hS.n<=c\/c∈B\/c=l->(c∈B0\/c=l)\/hA'.n<=c:=fun c d=>d.elim (fun h=>.inr (zO f.n h)) (fun h=>h.elim (fun h=>(hB c h).imp .inl (fun h=>h)) (fun e=>.inl (.inr e)))
     have bm:=Rc.lt bi
     by_cases hv:v=to
     . subst hv
       simp only [BS,LB,Nat.reduceLT,Nat.reduceEqDiff,Nat.reduceAdd,r0,r2]
       refine step_ret (sback_ok S.ok) ?_
       rintro rv h4 ⟨g4,b1,b2,rfl,b5,bt,nb,e1,e2⟩
       replace S:=S.call g4
       have b7:=g4.n
       simp only [BS,LB,Nat.reduceLT,Nat.reduceEqDiff]
       have pl:=(G.bd v).2
       have b8:=G.len
       refine step_ret (sS S.ok (back_it ad (wq.trans g4) y hn (Rc.gr g4) G (Xt _ (by simp)) e1 e2 (fun h=>by have:=bm b2 h;omega) nb (zO wq.n bt)) (fun b hb=>by subst hb;exact e2.lt g4.ok) (by omega)) ?_
       rintro vA h5 ⟨fW,bu,z⟩
       replace S:=S.step fW (fun c d=>.inr (by subst d;omega)) (fun c d e=>by subst e;have:=k3 d;omega)
       simp only [BS,LB,Nat.reduceLT,Nat.reduceEqDiff]
       refine step_ret (z8 S.ok bu (by omega)) ?_
       rintro rv h6 ⟨fR,gR⟩
       have b9:=fW.n
       have cb: ∀c,ar vA c->_<=c:=z
       replace S:=S.step fR (fun c d=>.inr (by have:=z c d;omega)) (fun c d hb=>by have:=k3 d;have:=z c hb;omega)
       have a4:Fl vA:=gR.fl
       have lL:=(S.row (b:=N) m2).load1 (sF (L:=σ.L) Z)
       simp only [BS]
       refine aw (aB rfl) (q:=0) (ps:=[]) (by kernel_rfl) ?_
       simp only [BS,LB,cls,Nat.reduceLT,Nat.reduceEqDiff,Nat.reduceAdd,Nat.reducePow,Nat.reduceDiv,Nat.reduceMod,Nat.reduceLeDiff,Fq,r0,r2,r6,Z,lL,A,a4,S.ld (b:=u) (o:=2) m1 rfl,S.ld (b:=u) (o:=7) m1 rfl]
       refine dw (S.store (i:=0) rfl Tryz.t114.2.1 (by intro x e;cases e) rfl (by simp only [ah,XB,XD,A.2.1,a4.2.1,Xk];rfl) (lbt rfl) ono) ?_
       have bx: ∀c,ar vA c->c≠l:=fun c d e=>by have:=z c d;have:=k3 (c:=l) (by simp [keys]);omega
       have kA: ∀c,ar vA c-> ¬ar t c:=fun c d he=>by
        have:=z c d
        have:=k3 (fI (p:=(t,4,_)) m0 (qj (S.gown _ m0).1 he))
        omega
       clear S;rintro h7 ⟨S,mo⟩
       simp only [LC,ah,lay,Xh,Xi,Nat.reduceAdd]at S
       simp only [BS,LB,ab,Nat.reduceAdd]
       refine(dg (by decide) (by simp only [aO,r6,ae,Nat.reduceEqDiff,reduceIte];exact cQ Tryz.t114.1 Tryz.t114.2.1 (S.lds (b:=l) (o:=0) (n:=3) m0 (lbt rfl)))).2 (dV.2 ?_)
       have bB:=(((gh.fr (M:=NoM)).trans Sp.fr (fun c d=>.inr (bq c (.inr d)))).trans S.fr (fun c d=>.inr (bq c (kp c d)))).gr
       refine⟨bB,_,hE _ (.hit O),vA,t,rfl,gR.of_get (fun c d=>mo.get c (gR.lt fR.ok d) ?_),(S.gown _ m0).1,fun c d=>⟨by have:=z c d;have:=wq.n;omega,kA c d⟩,fun c d=>?_⟩
       . obtain⟨a',n',e',_⟩: ∃a' n',vA=Value.slice (some ⟨a',0,some 1⟩) n' n'/\a'=c:=by
          rcases gR with⟨e,_⟩|⟨b',n',e,_⟩
          . simp only []at e;rw [e]at d;cases d
          . simp only []at e;rw [e]at d;cases d;exact⟨_,_,e,rfl⟩
         exact bx c (by rw [e'];assumption)
       . exact bq c (((S.gown _ m0).2 c (qj (S.gown _ m0).1 d)).elim (fun h=>.inl (zO np h)) (fun h=>kp c h))
     . have bE: ¬((v:Int)=(to:Int)):=by omega
       simp only [BS,LB,Nat.reduceLT,Nat.reduceEqDiff,Nat.reduceAdd,r0,r2,bE]
       obtain⟨a5,bH⟩:=sv.next hA hk
       refine step_ret (sscan_ok ad wq y hn Rc a3 a7 ai hp Z G (sv.room v) (by show(σ.ev++[_]).length<=10000;simp;omega)) ?_
       rintro rv h4 ⟨f4,B4,R4,bL⟩
       simp only [BS]
       have es:=ev_scanS g.arcs al pi v (dl σ v)
       have eO:(po g.arcs al pi v (dl σ v)).O=σ.O++[v]:=bH.O
       have ec:(dl σ v).ev.length=σ.ev.length+1:=by show(σ.ev++[_]).length=_;simp
       have a6:=a5.len
       rw [eO]at a6
       simp at a6
       refine ih _ _ _ (by rw [eO];simp;omega) ⟨B4,?_,?_,R4,?_,a5,by rw [eO];simp;omega,fun r hr=>hE r (.step O hv hr),by simp [aa,r0,ae],by simp [aa,r1],by simp [aa,r2],by simp [aa,r6,ae]⟩
       . exact((f.trans Sp.fr (fun c d=>bo c (.inr d))).trans S.fr (fun c d=>bo c (kp c d))).trans f4 (fun c d=>bo c ((I c d).imp (fun h=>h) .inl))
       . exact f4.has (o:=.row _ 1) (S.row m0) (fun W=>(I l W).elim (fun h=>by have:=f.n;omega) Q)
       . exact fun c d=>(bL c d).elim (fun h=>(I c h).elim (fun h=>.inr (zO f.n h)) (hB c)) (fun h=>.inr (by have:=f.n;omega))
 . have k0:(nH pi s).ev.length=0:=by unfold nH;rw [yJ];rfl
   exact⟨B1,f1.mono (fun c d=>.inl d),f1.has (o:=.row _ 1) K n6,R1,ak,sv_init hs,by omega,fun r hr=>hr,by simp [aa,aP,ae],by simp [aa,aP,bW],by simp [aa,aP,bW],by simp [aa,ae]⟩
def Tryz.FN:=aj t1<|aj t2<|aj t3<|aj t4<|aj t5<|aj t6<|aj Z3<|aj Z4<|aj t9<|aj t10<|aj t20<|aj t24<|t142
def Tryz.FO:=aj t1<|aj t2<|aj t3<|aj t4<|aj t5<|aj t6<|aj Z3<|aj Z4<|aj t9<|aj t10<|aj t20<|aj t33<|t142
theorem rep64_ok{h0:Hp}(u:h0.t.Sized h0.n){v:Value}{x:Int}{N:Nat}(y:av h0 1 (encI .i64) v [x])(a:1<=N)(z:N<1000):Ret zM 210 [v,.int .i64 N] h0 fun r p=>Gr h0 p/\ ∃b,r=.slice (some ⟨b,0,none⟩) N N/\h0.n<=b/\Row p b (Xb N (.int .i64 x)) 1:=by
 have S:=Si u
 have A: ¬((N:Int)<0):=by omega
 have B: ¬((9223372036854775807:Int)<(N:Int)):=by omega
 have C:an .u64 (N:Int)=(N:Int):=uq (by omega) (by omega)
 have D:an .u64 1=1:=rfl
 have E:an .i64 (N:Int)=(N:Int):=by rw [wrap64]<;>omega
 obtain⟨K,L,M,O,rfl,F,G⟩: ∃b o s c,v=.slice (some ⟨b,o,s⟩) 1 c/\1<=c/\h0.load b o 1=some [.int .i64 x]:=by
  rcases y with⟨_,h⟩|⟨b,o,s,c,rfl,H,I⟩
  . cases h
  . exact⟨b,o,s,c,rfl,H,I⟩
 refine ac (n:=48) (rs:=[.tmp 4]) rfl Tryz.e210 rfl rfl rfl (lbt rfl) ?_
 simp only [BS,LB,iN,cu,i9,Nat.reduceLT,Nat.reduceEqDiff,Xj,FN,A,C,D]
 refine am (mul_ok S.ok z) ?_;intro h g;replace S:=S.call g;clear g
 simp only [BS,LB,iN,cu,i9,Nat.reduceLT,Nat.reduceEqDiff,Int.reduceLT,FN,B,E]
 refine ag (jF (by exact Tryz.t24.1) (by exact Tryz.e2E) (by omega) (by omega)) S ?_;clear S;intro h j S d
 rw [Xu,lJ]at S
 simp only [BS,LB,Nat.reduceLT,Nat.reduceEqDiff,Xu]
 refine dA (S.copyO (i:=0) (l:=Xb 1 (.int .i64 x)) rfl Tryz.t24.1 Tryz.t2.2.2.1 (by rw [jq a];decide) (by rw [jq a];exact S.old G (fun h=>h)) (by simp;omega) rfl) ?_
 clear S;rintro h w ⟨rfl,S⟩
 simp only [LC]at S
 rw [show Xb N (Value.int .i64 0)=Xb 0 (.int .i64 x)++Xb N (.int .i64 0) by simp,sc a]at S
 rw [jq a]
 simp only [BS,LB,Nat.reduceLT,Nat.reduceEqDiff,Xj]
 refine aQ (fun(n:Nat) m h=>1<=n/\n<=N/\St NoM h0 h [(j,.row (Xb n (.int .i64 x)++Xb (N-n) (.int .i64 0)) 1)] []/\m 7=.slice (some ⟨j,0,none⟩) N N/\m 8=.int .i64 n) (fun n=>N-n) ?_ 1 _ _ ?_
 . clear S
   intro n J m h ⟨hn1,hn,S,r7,r8⟩
   by_cases hlt:n<N
   . simp only [BS,LB,Nat.reduceLT,Nat.reduceEqDiff,FN,r7,r8,aA,hlt]
     refine aw (aB rfl) (q:=0) (ps:=[]) (by kernel_rfl) ?_
     simp only [BS,LB,cls,Nat.reduceLT,Nat.reduceEqDiff,Nat.reduceAdd,Nat.reducePow,Nat.reduceDiv,Nat.reduceMod,Nat.reduceLeDiff,XJ,Option.map_none,r7,r8,yk Tryz.t24.1 Tryz.t2.2.2.1 hlt,wH Tryz.t24.1 Tryz.t2.2.2.1 (X5 hlt)]
     have t:0<dL n (N-n):=by
      rcases XQ n (N-n)with h|h
      . rw [jq h];omega
      . rw [sI h];omega
     have f:dL n (N-n)<=N-n/\dL n (N-n)<=n:=by
      rcases XQ n (N-n)with h|h
      . rw [jq h];omega
      . rw [sI h];omega
     refine dn_v (S.copyO (i:=0) (l:=Xb (dL n (N-n)) (.int .i64 x)) rfl Tryz.t24.1 Tryz.t2.2.2.1 t ?_ (by simp;omega) (by simp;right;rfl)) ?_
     . rw [(S.row m0).load (by simp;omega),Xn,Xq]
       congr 1
       rw [Xy (by simp;omega),XY]
       congr 1
       omega
     clear S;rintro h w ⟨rfl,S⟩
     simp only [LC]at S
     rw [sc f.1]at S
     generalize dL n (N-n)=k at S t f
     have w:an .i64 ((n:Int)+(k:Int))=((n+k:Nat):Int):=by rw [wrap64]<;>omega
     simp only [BS,LB,cls,Nat.reduceLT,Nat.reduceEqDiff,Nat.reduceAdd,Nat.reducePow,Nat.reduceDiv,Nat.reduceMod,Nat.reduceLeDiff,w]
     exact J (n+k) _ _ (by omega) ⟨by omega,by omega,by rw [show N-(n+k)=N-n-k by omega];exact S,by simp [aa,r7],by simp [aa]⟩
   . simp only [BS,LB,ab,Nat.reduceLT,Nat.reduceEqDiff,FN,r7,r8,aA,hlt]
     have e:n=N:=by omega
     subst e
     have R:=S.row (b:=j) m0
     rw [Nat.sub_self,XZ,XU]at R
     exact⟨S.gr,j,rfl,d,R⟩
 . exact⟨Xw _,a,by simpa using S,by simp [aa],by simp [aa]⟩
theorem repI_ok{h0:Hp}(u:h0.t.Sized h0.n){v:Value}{x:Int}{N:Nat}(y:av h0 1 (encI .i64) v [x])(a:1<=N)(z:N<1000):Ret zM 211 [v,.int .i64 N] h0 fun r p=>Gr h0 p/\ ∃b,r=.slice (some ⟨b,0,none⟩) N N/\h0.n<=b/\Row p b (Xb N (.int .i64 x)) 1:=by
 have S:=Si u
 have A: ¬((N:Int)<0):=by omega
 have B: ¬((9223372036854775807:Int)<(N:Int)):=by omega
 have C:an .u64 (N:Int)=(N:Int):=uq (by omega) (by omega)
 have D:an .u64 1=1:=rfl
 have E:an .i64 (N:Int)=(N:Int):=by rw [wrap64]<;>omega
 obtain⟨K,L,M,O,rfl,F,G⟩: ∃b o s c,v=.slice (some ⟨b,o,s⟩) 1 c/\1<=c/\h0.load b o 1=some [.int .i64 x]:=by
  rcases y with⟨_,h⟩|⟨b,o,s,c,rfl,H,I⟩
  . cases h
  . exact⟨b,o,s,c,rfl,H,I⟩
 refine ac (n:=48) (rs:=[.tmp 4]) rfl Tryz.e211 rfl rfl rfl (lbt rfl) ?_
 simp only [BS,LB,iN,cu,i9,Nat.reduceLT,Nat.reduceEqDiff,Xj,FO,A,C,D]
 refine am (mul_ok S.ok z) ?_;intro h g;replace S:=S.call g;clear g
 simp only [BS,LB,iN,cu,i9,Nat.reduceLT,Nat.reduceEqDiff,Int.reduceLT,FO,B,E]
 refine ag (jF (by exact Tryz.t33.1) (by exact XL) (by omega) (by omega)) S ?_;clear S;intro h j S d
 rw [Xu,lJ]at S
 simp only [BS,LB,Nat.reduceLT,Nat.reduceEqDiff,Xu]
 refine dA (S.copyO (i:=0) (l:=Xb 1 (.int .i64 x)) rfl Tryz.t33.1 Tryz.t3.2.2.1 (by rw [jq a];decide) (by rw [jq a];exact S.old G (fun h=>h)) (by simp;omega) rfl) ?_
 clear S;rintro h w ⟨rfl,S⟩
 simp only [LC]at S
 rw [show Xb N (Value.int .i64 0)=Xb 0 (.int .i64 x)++Xb N (.int .i64 0) by simp,sc a]at S
 rw [jq a]
 simp only [BS,LB,Nat.reduceLT,Nat.reduceEqDiff,Xj]
 refine aQ (fun(n:Nat) m h=>1<=n/\n<=N/\St NoM h0 h [(j,.row (Xb n (.int .i64 x)++Xb (N-n) (.int .i64 0)) 1)] []/\m 7=.slice (some ⟨j,0,none⟩) N N/\m 8=.int .i64 n) (fun n=>N-n) ?_ 1 _ _ ?_
 . clear S
   intro n J m h ⟨hn1,hn,S,r7,r8⟩
   by_cases hlt:n<N
   . simp only [BS,LB,Nat.reduceLT,Nat.reduceEqDiff,FO,r7,r8,aA,hlt]
     refine aw (aB rfl) (q:=0) (ps:=[]) (by kernel_rfl) ?_
     simp only [BS,LB,cls,Nat.reduceLT,Nat.reduceEqDiff,Nat.reduceAdd,Nat.reducePow,Nat.reduceDiv,Nat.reduceMod,Nat.reduceLeDiff,XJ,Option.map_none,r7,r8,yk Tryz.t33.1 Tryz.t3.2.2.1 hlt,wH Tryz.t33.1 Tryz.t3.2.2.1 (X5 hlt)]
     have t:0<dL n (N-n):=by
      rcases XQ n (N-n)with h|h
      . rw [jq h];omega
      . rw [sI h];omega
     have f:dL n (N-n)<=N-n/\dL n (N-n)<=n:=by
      rcases XQ n (N-n)with h|h
      . rw [jq h];omega
      . rw [sI h];omega
     refine dn_v (S.copyO (i:=0) (l:=Xb (dL n (N-n)) (.int .i64 x)) rfl Tryz.t33.1 Tryz.t3.2.2.1 t ?_ (by simp;omega) (by simp;right;rfl)) ?_
     . rw [(S.row m0).load (by simp;omega),Xn,Xq]
       congr 1
       rw [Xy (by simp;omega),XY]
       congr 1
       omega
     clear S;rintro h w ⟨rfl,S⟩
     simp only [LC]at S
     rw [sc f.1]at S
     generalize dL n (N-n)=k at S t f
     have w:an .i64 ((n:Int)+(k:Int))=((n+k:Nat):Int):=by rw [wrap64]<;>omega
     simp only [BS,LB,cls,Nat.reduceLT,Nat.reduceEqDiff,Nat.reduceAdd,Nat.reducePow,Nat.reduceDiv,Nat.reduceMod,Nat.reduceLeDiff,w]
     exact J (n+k) _ _ (by omega) ⟨by omega,by omega,by rw [show N-(n+k)=N-n-k by omega];exact S,by simp [aa,r7],by simp [aa]⟩
   . simp only [BS,LB,ab,Nat.reduceLT,Nat.reduceEqDiff,FO,r7,r8,aA,hlt]
     have e:n=N:=by omega
     subst e
     have R:=S.row (b:=j) m0
     rw [Nat.sub_self,XZ,XU]at R
     exact⟨S.gr,j,rfl,d,R⟩
 . exact⟨Xw _,a,by simpa using S,by simp [aa],by simp [aa]⟩
def Tryz.F0r:=aj t1<|aj t2<|aj t3<|aj t4<|aj t24<|aj t74<|Z23
def Tryz.F0s:=aj t1<|aj t2<|aj t3<|aj t4<|aj t24<|aj t74<|Z23
def Tryz.Fs:=aj t1<|aj t2<|aj t3<|aj t4<|aj t5<|aj t6<|aj t24<|aj Z0<|aj t32<|aj t33<|aj t48<|aj t74<|aj Z14<|aj Z23<|aj t189<|aj Z1<|aj t196<|aj t217<|aj t237<|aj t275<|aj Z20<|aj Z7<|Z8
def Tryz.F0t:=aj t1<|aj t3<|aj t4<|t74
def Tryz.F0u:=aj t1<|aj t2<|aj t3<|aj t4<|t24
def Tryz.F18:=aj t1<|aj t2<|aj t3<|aj t4<|aj t24<|aj t29<|aj Z0<|aj t32<|aj t33<|aj Z2<|aj t189<|Z1
def Tryz.F19:=aj t1<|aj t3<|aj t4<|aj Z0<|aj t32<|aj t189<|Z1
def Tryz.Ff:=aj t1<|aj t2<|aj t3<|aj t4<|aj t5<|aj t6<|aj Z3<|aj Z4<|aj t24<|aj Z0<|aj t32<|aj t33<|aj t45<|aj t48<|aj t74<|aj Z14<|aj t114<|aj r114<|aj Z23<|aj t189<|aj Z1<|aj t196<|aj t217<|aj t237<|aj t275<|Z20
def alF(b:List Bool)(a:Nat):Bool:=b.isEmpty||b.getD a false
def piF(a:List Int)(v:Nat):Int:=if a=[]then 0 else max (-72057594037927936) (a.getD v 0)
theorem piF_lo(a:List Int)(v:Nat): -(FAR:Int)<=piF a v:=by
 have:=mR
 unfold piF
 split<;>omega
theorem al_ok{hq:Hp}{p n:Nat}{j:Value}{d:List Bool}(s:hq.load p 2 1=some [j])(t:av hq 1 encB j d)(q:d=[]\/d.length=n):AlF zM hq 215 p n (alF d):=by
 intro h g a v
 have S:=Si g.ok
 have r:=g.load s
 have f:=t.gr g
 rcases q with rfl|q
 . refine ac (n:=15) (rs:=[.tmp 3]) rfl Tryz.e215 rfl rfl rfl (lbt rfl) ?_
   simp only [BS,LB,ab,Nat.reduceLT,Nat.reduceEqDiff,Xj,F0r,r,f.lenq]
   exact⟨rfl,S.gr⟩
 . have u: ¬((d.length:Int)=0):=by omega
   have i:a<d.length:=by omega
   obtain⟨c,o,k,m⟩:=f.ix (kd:=.i64) xI i
   have e:alF d a=d[a]:=by
    unfold alF
    cases d with
    |nil=>simp at i
    | cons b l=>
      show(false||(b::l).getD a false)=_
      rw [Xa,Xc i];rfl
   rw [e]
   refine ac (n:=15) (rs:=[.tmp 3]) rfl Tryz.e215 rfl rfl rfl (lbt rfl) ?_
   simp only [BS,LB,ab,Nat.reduceLT,Nat.reduceEqDiff,F0r,r,f.lenq,u,k,m,encB]
   exact S.gr
theorem pi_ok{hq:Hp}{l n:Nat}{i:Value}{b:List Int}(q:hq.load l 3 1=some [i])(r:av hq 1 (encI .i64) i b)(m:b=[]\/b.length=n):PiF zM hq 216 l n (piF b):=by
 intro h g a t
 have S:=Si g.ok
 have p:=g.load q
 have d:=r.gr g
 rcases m with rfl|m
 . refine ac (n:=14) (rs:=[.tmp 3]) rfl Tryz.e216 rfl rfl rfl (lbt rfl) ?_
   simp only [BS,LB,ab,Nat.reduceLT,Nat.reduceEqDiff,Xj,F0s,p,d.lenq]
   exact⟨rfl,S.gr⟩
 . have s: ¬((b.length:Int)=0):=by omega
   have f:a<b.length:=by omega
   obtain⟨c,o,j,k⟩:=d.ix (kd:=.i64) (bK .i64) f
   have e:piF b a=max (-72057594037927936) b[a]:=by
    unfold piF
    rw [if_neg (by intro e;subst e;simp at f)]
    simp [Xa,f]
   rw [e]
   refine ac (n:=14) (rs:=[.tmp 3]) rfl Tryz.e216 rfl rfl rfl (lbt rfl) ?_
   simp only [BS,LB,ab,Nat.reduceLT,Nat.reduceEqDiff,F0s,p,d.lenq,s,j,k,encI]
   exact S.gr
theorem sstart_ok{h0:Hp}(U:h0.t.Sized h0.n){d:Gra}(t:Good d){V w:Nat}(l:aV h0 V (ptrTo w) d){s to:Int}{j k:Value}(fA:Fl j)(fP:Fl k):
 Ret zM 151 [ptrTo w,.agg ⟨[.int .i64 s,.int .i64 to,j,k]⟩] h0 fun r G=> ∃m f hq B,r=ptrTo m/\Gr h0 hq/\Gr hq G/\hq.load f 2 1=some [j]/\hq.load f 3 1=some [k]/\fo G B m (ptrTo w) (.func (.func 215) #[] #[ptrTo f]) (.func (.func 216) #[] #[ptrTo f]) d.nodes zS/\ ∀c∈B,hq.n<=c:=by
 have W:=t.n1
 have n2:=t.n2
 have S:=Si U
 refine ac (n:=34) (rs:=[.tmp 4]) rfl Tryz.e151 rfl rfl rfl (lbt rfl) ?_
 simp only [BS,Nat.reduceLT]
 refine ag (bg (by intro x e;cases e)) S ?_;clear S;intro h f S I;simp only [ah]at S
 have z:=S.gr
 have X:=S.ld (b:=f) (o:=2) m0 rfl
 have Y:=S.ld (b:=f) (o:=3) m0 rfl
 clear S
 rename Hp=>hq
 replace l:=l.gr z
 have S:=Si z.ok
 simp only [BS]
 refine aw (aB rfl) (q:=2880) (ps:=[]) (by kernel_rfl) ?_
 simp only [BS,LB,cls,Nat.reduceLT,Nat.reduceEqDiff,Nat.reduceAdd,Nat.reducePow,Nat.reduceDiv,Nat.reduceMod,Nat.reduceLeDiff]
 refine bZ (cC S.ok (l.gr S.gr)) ?_;intro h g;replace S:=S.call g;clear g
 simp only [BS,LB,cls,Nat.reduceLT,Nat.reduceEqDiff,Nat.reduceAdd,Nat.reducePow,Nat.reduceDiv,Nat.reduceMod,Nat.reduceLeDiff]
 refine da (uO S.ok) ?_;rintro Z h ⟨g,F,H,hF⟩
 have k0:=S.fr.n
 replace S:=S.call g;clear g
 have pp: ∃b,Z=ptrTo b:=by obtain⟨b,_,_,e,_⟩:=H.ex;exact⟨b,e⟩
 obtain⟨J,rfl⟩:=pp
 have p:=S
 have lF:=H.lt p.ok
 rename Hp=>h_H
 replace S:=S.base
 simp only [BS,LB,cls,Nat.reduceLT,Nat.reduceEqDiff,Nat.reduceAdd,Nat.reducePow,Nat.reduceDiv,Nat.reduceMod,Nat.reduceLeDiff]
 refine bZ (cC S.ok (l.gr (p.rebase S).gr)) ?_;intro h g;replace S:=S.call g;clear g
 simp only [BS,LB,cls,Nat.reduceLT,Nat.reduceEqDiff,Nat.reduceAdd,Nat.reducePow,Nat.reduceDiv,Nat.reduceMod,Nat.reduceLeDiff]
 refine dK (jF (by exact Tryz.t24.1) (by exact Tryz.e2E) (by omega) (by omega)) S ?_;clear S;intro h A S K L
 simp only [BS,LB,cls,Nat.reduceLT,Nat.reduceEqDiff,Nat.reduceAdd,Nat.reducePow,Nat.reduceDiv,Nat.reduceMod,Nat.reduceLeDiff,Xu]
 refine vr (cC (h0:={h with lo:=h.n}) S.ok ((l.gr (p.rebase S).gr).keep S.ok (fun _ _=>rfl))) ?_;intro h g;replace S:=S.call g;clear g
 simp only [BS,LB,cls,Nat.reduceLT,Nat.reduceEqDiff,Nat.reduceAdd,Nat.reducePow,Nat.reduceDiv,Nat.reduceMod,Nat.reduceLeDiff]
 refine dK (jF (by exact Tryz.t74.1) (by exact Tryz.e4E) (by omega) (by omega)) S ?_;clear S;intro h C S M N
 simp only [BS,LB,cls,Nat.reduceLT,Nat.reduceEqDiff,Nat.reduceAdd,Nat.reducePow,Nat.reduceDiv,Nat.reduceMod,Nat.reduceLeDiff,Fs,Xu]
 refine dK (bg (by intro x e;cases e)) S ?_;clear S;intro h m S O P;simp only [ah]at S
 simp only [BS,LB,cls,Nat.reduceLT,Nat.reduceEqDiff,Nat.reduceAdd,Nat.reducePow,Nat.reduceDiv,Nat.reduceMod,Nat.reduceLeDiff]
 refine ag (bI (by exact Tryz.t33.1) (by exact XL) (by decide) (by rfl)) S ?_;clear S;intro h Q S R;simp only [LC,aT,bA,ah,Nat.reduceMul,Nat.reduceAdd,Xr,Xs,Xn,Xv]at S
 simp only [BS,LB,Nat.reduceLT,Nat.reduceEqDiff]
 refine am (cC S.ok (l.gr (p.rebase S).gr)) ?_;intro h g;replace S:=S.call g;clear g
 simp only [BS,LB,Nat.reduceLT,Nat.reduceEqDiff]
 have D:=fun {c} (a:c∈_)=>S.key_lt (b:=c) a
 have kn:=S.fr.n
 refine step_ret (repI_ok S.ok (x:= -1) (.inr ⟨Q,0,none,1,rfl,Xw _,S.lds (b:=Q) (o:=0) (n:=1*1) m0 (lbt rfl)⟩) W (by omega)) ?_;intro v h ⟨g,y,eb,nb',Rb⟩;replace S:=S.call g;clear g
 subst eb
 replace S:=S.drop1
 replace S:=S.push (b:=y) (o:=.row _ 1) (.inl (zO kn nb')) Rb (fun E=>by have:=D (Xg _ E);omega)
 simp only [BS,LB,Nat.reduceLT,Nat.reduceEqDiff,Fs]
 refine ay (az S (i:=1) rfl ?_ ?_ ?_ ono) ?_
 . exact(by simp only [Fs])
 . exact(by exact bj)
 . exact Xd (lbt rfl)
 clear S;rintro h ⟨S,u⟩;clear u;simp only [LC,ah,lay,Xh,Xi,Nat.reduceAdd]at S
 simp only [BS,LB,Nat.reduceLT,Nat.reduceEqDiff,Fs]
 refine ay (az S (i:=1) rfl ?_ ?_ ?_ ono) ?_
 . exact(by simp only [Fs])
 . exact(by exact gY)
 . exact Xd (lbt rfl)
 clear S;rintro h ⟨S,u⟩;clear u;simp only [LC,ah,lay,Xh,Xi,Nat.reduceAdd]at S
 simp only [BS,LB,Nat.reduceLT,Nat.reduceEqDiff,Fs]
 refine ay (az S (i:=1) rfl ?_ ?_ ?_ ono) ?_
 . exact(by simp only [Fs])
 . exact(by exact gY)
 . exact Xd (lbt rfl)
 clear S;rintro h ⟨S,u⟩;clear u;simp only [LC,ah,lay,Xh,Xi,Nat.reduceAdd]at S
 simp only [BS,LB,ab,Nat.reduceLT,Nat.reduceEqDiff]
 have e1:aT [Value.int .i64 0] ((d.nodes:Int)).toNat=labC d.nodes zS.L:=by rw [pW];rfl
 have e2:aT [Value.bool false] ((d.nodes:Int)).toNat=clC d.nodes zS.O:=by
  rw [pW];unfold clC zS
  exact X2 fun v _=>by simp
 have e3:Xb d.nodes (Value.int .i64 (-1))=byC d.nodes zS.P:=by
  show _=(Xe d.nodes).map fun _=>Value.int .i64 (-1)
  rw [List.map_const',XA]
 rw [e1,e2,e3]at S
 have ap:=S.apart
 have D:=fun {c} a=>S.key_own (b:=c) a
 have n0:=p.fr.n
 have T: ∀c∈keys (srL m A y C d.nodes (ptrTo w) (ptrTo J) (.func (.func 215) #[] #[ptrTo f]) (.func (.func 216) #[] #[ptrTo f]) (.slice none 0 0) zS) (srG (.slice none 0 0) zS),h_H.n<=c:=fun c a=>by
  have:c=y\/c=m\/c=C\/c=A:=by simp [srL,srG,keys,dU]at a;omega
  rcases D (c:=c) (by simp [keys];omega)with h|h
  . exact h
  . simp [keys]at h
 refine⟨m,f,hq,_,rfl,z,(p.rebase S).gr,X,Y,⟨A,y,C,J,F,.slice none 0 0,rfl,fun q hq=>?_,.inl ⟨rfl,rfl⟩,?_,H.mo S.fr (fun c _ h=>by simp [keys]at h),fun c a E=>?_⟩,fun c a=>?_⟩
 . simp only [srL,XW,List.not_mem_nil,or_false]at hq
   rcases hq with rfl|rfl|rfl|rfl
   . exact S.row m1
   . exact S.row m3
   . exact S.row m0
   . exact S.row m2
 . simp [srL,srG,keys,dU]at ap⊢
   exact⟨by omega,by omega,by omega,.nil⟩
 . have:=lF c a
   have:=T c E
   omega
 . rcases List.mem_append.1 a with a|a
   . exact zO n0 (T c a)
   . exact zO k0 (hF c a)
theorem fitsB_ok{h0:Hp}(d:h0.t.Sized h0.n){v:Value}{xs:List Bool}(b:av h0 1 encB v xs){n:Nat}(e:xs=[]\/xs.length=n):aK zM 148 [v,.int .i64 n] h0 (.bool true):=by
 have S:=Si d
 by_cases a:(xs.length:Int)=0
 . refine ac (n:=14) (rs:=[.tmp 4]) rfl Tryz.e148 rfl rfl rfl (lbt rfl) ?_
   simp only [BS,LB,ab,Nat.reduceLT,Nat.reduceEqDiff,F0t,b.lenq,a]
   exact S.gr
 . have c:(xs.length:Int)=(n:Int):=by
    rcases e with rfl|h
    . simp at a
    . omega
   rw [c]at a
   refine ac (n:=14) (rs:=[.tmp 4]) rfl Tryz.e148 rfl rfl rfl (lbt rfl) ?_
   simp only [BS,LB,ab,Nat.reduceLT,Nat.reduceEqDiff,F0t,b.lenq,a,c]
   exact S.gr
theorem fitsI_ok{h0:Hp}(d:h0.t.Sized h0.n){v:Value}{xs:List Int}(b:av h0 1 (encI .i64) v xs){n:Nat}(e:xs=[]\/xs.length=n):aK zM 150 [v,.int .i64 n] h0 (.bool true):=by
 have S:=Si d
 by_cases a:(xs.length:Int)=0
 . refine ac (n:=14) (rs:=[.tmp 4]) rfl Tryz.e150 rfl rfl rfl (lbt rfl) ?_
   simp only [BS,LB,ab,Nat.reduceLT,Nat.reduceEqDiff,F0u,b.lenq,a]
   exact S.gr
 . have c:(xs.length:Int)=(n:Int):=by
    rcases e with rfl|h
    . simp at a
    . omega
   rw [c]at a
   refine ac (n:=14) (rs:=[.tmp 4]) rfl Tryz.e150 rfl rfl rfl (lbt rfl) ?_
   simp only [BS,LB,ab,Nat.reduceLT,Nat.reduceEqDiff,F0u,b.lenq,a,c]
   exact S.gr
theorem kZ{h0:Hp}(d:h0.t.Sized h0.n){p:Value}{a:Gra}{e:Nat}(c:aV h0 e p a):aK zM 149 [p] h0 (.int .i64 a.arcs.length):=by
 have S:=Si d
 obtain⟨b,h,i,j,k,l,rfl,r,f,_⟩:=c.ex
 have g:=r.load1 (o:=3) rfl
 refine ac (n:=11) (rs:=[.tmp 2]) rfl Tryz.e149 rfl rfl rfl (lbt rfl) ?_
 simp only [BS,LB,ab,Nat.reduceLT,Nat.reduceEqDiff,F18,g,f.A.lenq]
 exact S.gr
theorem vh{h0:Hp}(d:h0.t.Sized h0.n){a b2:Nat}{b:Gra}{e:Nat}(c:aV h0 e (ptrTo a) b)(l:h0.load b2 0 1=some [ptrTo a]){v:Nat}(f:v<b.nodes):aK zM 147 [.int .i64 (v:Nat),ptrTo b2] h0 (.bool true):=by
 have S:=Si d
 have i:(0:Int)<=(v:Int):=by omega
 refine ac (n:=12) (rs:=[.tmp 3]) rfl Tryz.e147 rfl rfl rfl (lbt rfl) ?_
 simp only [BS,LB,Nat.reduceLT,Nat.reduceEqDiff,F19,l,i]
 refine am (cC S.ok (c.gr S.gr)) ?_;intro h g;replace S:=S.call g;clear g
 simp only [BS,LB,ab,Nat.reduceLT,Nat.reduceEqDiff,aA,f]
 exact S.gr
theorem AV{h0:Hp}(ok:h0.t.Sized h0.n){u:Gra}(w:Good u){nb X:Nat}(y:aV h0 nb (ptrTo X) u){s to:Nat}(Y:s<u.nodes)(z:to<u.nodes){A C:Value}{l:List Bool}{f:List Int}(M:av h0 1 encB A l)(D:l=[]\/l.length=u.arcs.length)(N:av h0 1 (encI .i64) C f)(E:f=[]\/f.length=u.nodes):
 Ret zM 72 [ptrTo X,.agg ⟨[.int .i64 (s:Nat),.int .i64 (to:Nat),A,C]⟩] h0 fun r Z=>Gr h0 Z/\ ∃v F,r=.tuple #[v,.int .i64 0]/\FdAt Z h0.n v F/\((s=to/\F=⟨0,[],[]⟩)\/(s≠to/\Ends u.arcs (alF l) (piF f) to (nH (piF f) s) F)):=by
 have S:=Si ok
 have fA:=M.fl
 have fP:=N.fl
 refine ac (n:=57) (rs:=[.cell 4 114,.tmp 5]) rfl Tryz.e72 rfl rfl rfl (lbt rfl) ?_
 simp only [BS,Nat.reduceLT]
 refine ag (bN (by exact ct)) S ?_;clear S;intro h d S ad
 simp only [BS,Nat.reduceLT,Nat.reduceEqDiff,if_false]
 refine ag (bg (by intro x e;cases e)) S ?_;clear S;intro h a S af;simp only [ah]at S
 simp only [BS,Ff]
 refine ag ax S ?_;clear S;intro h O S ai
 simp only [BS,LB,Nat.reduceLT,Nat.reduceEqDiff,Ff,S.ld (b:=d) (o:=0) m2 rfl]
 refine aw (aB rfl) (q:=0) (ps:=[(22,24),(14,16)]) (by kernel_rfl) ?_
 simp only [BS,LB,cls,Nat.reduceLT,Nat.reduceEqDiff,Nat.reduceAdd,Nat.reducePow,Nat.reduceDiv,Nat.reduceMod,Nat.reduceLeDiff,Ff,S.ld (b:=d) (o:=0) m2 rfl,S.ld (b:=a) (o:=0) m1 rfl]
 have p1:=(S.row (b:=d) m2).lt S.ok
 have q1:=(S.row (b:=a) m1).lt S.ok
 refine bZ (vh S.ok (y.gr S.gr) (S.ld (b:=d) (o:=0) m2 rfl) Y) ?_;intro h g;have P:=aq g p1;have v1:=aq g q1;replace S:=S.call g;clear g
 simp only [BS,LB,cls,Nat.reduceLT,Nat.reduceEqDiff,Nat.reduceAdd,Nat.reducePow,Nat.reduceDiv,Nat.reduceMod,Nat.reduceLeDiff,Ff,S.ld (b:=d) (o:=0) m2 rfl,S.ld (b:=a) (o:=1) m1 rfl]
 have p2:=(S.row (b:=d) m2).lt S.ok
 have q2:=(S.row (b:=a) m1).lt S.ok
 refine bZ (vh S.ok (y.gr S.gr) (S.ld (b:=d) (o:=0) m2 rfl) z) ?_;intro h g;have u2:=aq g p2;have v2:=aq g q2;replace S:=S.call g;clear g
 simp only [BS,LB,cls,Nat.reduceLT,Nat.reduceEqDiff,Nat.reduceAdd,Nat.reducePow,Nat.reduceDiv,Nat.reduceMod,Nat.reduceLeDiff,Ff,S.ld (b:=d) (o:=0) m2 rfl,S.ld (b:=a) (o:=2) m1 rfl]
 have L:=(S.row (b:=d) m2).lt S.ok
 have q3:=(S.row (b:=a) m1).lt S.ok
 refine bZ (kZ S.ok (y.gr S.gr)) ?_;intro h g;have u3:=aq g L;have v3:=aq g q3;replace S:=S.call g;clear g
 simp only [BS,LB,cls,Nat.reduceLT,Nat.reduceEqDiff,Nat.reduceAdd,Nat.reducePow,Nat.reduceDiv,Nat.reduceMod,Nat.reduceLeDiff]
 have p4:=(S.row (b:=d) m2).lt S.ok
 have q4:=(S.row (b:=a) m1).lt S.ok
 refine bZ (fitsB_ok S.ok (M.gr S.gr) D) ?_;intro h g;have u4:=aq g p4;have v4:=aq g q4;replace S:=S.call g;clear g
 simp only [BS,LB,cls,Nat.reduceLT,Nat.reduceEqDiff,Nat.reduceAdd,Nat.reducePow,Nat.reduceDiv,Nat.reduceMod,Nat.reduceLeDiff,Ff,S.ld (b:=d) (o:=0) m2 rfl,S.ld (b:=a) (o:=3) m1 rfl]
 have p5:=(S.row (b:=d) m2).lt S.ok
 have q5:=(S.row (b:=a) m1).lt S.ok
 refine bZ (cC S.ok (y.gr S.gr)) ?_;intro h g;have u5:=aq g p5;have v5:=aq g q5;replace S:=S.call g;clear g
 simp only [BS,LB,cls,Nat.reduceLT,Nat.reduceEqDiff,Nat.reduceAdd,Nat.reducePow,Nat.reduceDiv,Nat.reduceMod,Nat.reduceLeDiff]
 have p6:=(S.row (b:=d) m2).lt S.ok
 have q6:=(S.row (b:=a) m1).lt S.ok
 refine bZ (fitsI_ok S.ok (N.gr S.gr) E) ?_;intro h g;have u6:=aq g p6;have v6:=aq g q6;replace S:=S.call g;clear g
 simp only [BS,LB,cls,Nat.reduceLT,Nat.reduceEqDiff,Nat.reduceAdd,Nat.reducePow,Nat.reduceDiv,Nat.reduceMod,Nat.reduceLeDiff,Ff]
 refine⟨by simp only [bz,bG,aW,bM,a8,ne_eq,not_false_eq_true,bS,cD,bD,bw,ca,c9,aO,Nat.reduceLT,Nat.reduceEqDiff,reduceIte,Xk,ae,aE v3,aE v5],?_⟩
 clear p1 p2 L p4 p5 p6 q1 q2 q3 q4 q5 q6 P u2 u3 u4 u5 u6 v1 v2 v3 v4 v5 v6
 by_cases H:s=to
 . subst H
   simp only [BS,LB,Nat.reduceLT,Nat.reduceEqDiff,Ff,S.ld (b:=a) (o:=0) m1 rfl,S.ld (b:=a) (o:=1) m1 rfl]
   refine ay (S.store (i:=0) rfl Tryz.t114.2.1 (by intro x e;cases e) rfl rfl (lbt rfl) ono) ?_
   clear S;rintro h3 ⟨S,mo⟩
   simp only [LC,ah,lay,Xh,Xi,Nat.reduceAdd]at S
   simp only [BS,ab]
   refine(dg (by decide) (by simp only [aO,ae,Nat.reduceEqDiff,reduceIte];exact cQ Tryz.t114.1 Tryz.t114.2.1 (S.lds (b:=O) (o:=0) (n:=3) m0 (lbt rfl)))).2 ?_
   refine(kM (by decide)).2 (dV.2 ?_)
   exact⟨S.gr,_,⟨0,[],[]⟩,rfl,⟨_,_,rfl,.inl ⟨rfl,rfl⟩,.inl ⟨rfl,rfl⟩,fun c j=>j.elim,fun c j=>j.elim⟩,.inl rfl⟩
 . have I: ¬((s:Int)=(to:Int)):=by omega
   simp only [BS,LB,Nat.reduceLT,Nat.reduceEqDiff,Ff,I,S.ld (b:=a) (o:=0) m1 rfl,S.ld (b:=a) (o:=1) m1 rfl]
   refine aw (aB rfl) (q:=0) (ps:=[(2,6),(2,4)]) (by kernel_rfl) ?_
   simp only [BS,LB,cls,Nat.reduceLT,Nat.reduceEqDiff,Nat.reduceAdd,Nat.reducePow,Nat.reduceDiv,Nat.reduceMod,Nat.reduceLeDiff,Ff,Xq,X3,List.take_zero,S.ld (b:=d) (o:=0) m2 rfl,S.lds (b:=a) (o:=0) (n:=4) m1 (lbt rfl)]
   have J:=y.gr S.gr
   have kS:=S.fr.n
   have L:=(S.row (b:=a) m1).lt S.ok
   refine da (sstart_ok S.ok w J fA fP) ?_
   rintro r h5 ⟨br,ba,hq,B,rfl,m,Q,l2,l3,R,hB⟩
   have P:=aq (m.trans Q) L
   have Aq:=M.gr (S.gr.trans m)
   have Pq:=N.gr (S.gr.trans m)
   have T:=S.call m
   have ak:=(T.row (b:=O) m0).lt T.ok
   replace S:=S.call (m.trans Q)
   simp only [BS,LB,cls,Nat.reduceLT,Nat.reduceEqDiff,Nat.reduceAdd,Nat.reducePow,Nat.reduceDiv,Nat.reduceMod,Nat.reduceLeDiff,Ff,S.ld (b:=a) (o:=0) m1 rfl,S.ld (b:=a) (o:=1) m1 rfl]
   have kq:=m.n
   have U:=J.gr m
   refine da (srun_ok m.ok Q w U R hB (al_ok l2 Aq D) (pi_ok l3 Pq E) (fun v _=>piF_lo f v) Y z) ?_
   rintro rv h6 ⟨g6,F,he,vA,vE,rfl,G1,G2,V,d2⟩
   replace S:=T.call g6
   have f1:Fl vA:=G1.fl
   have f2:Fl vE:=G2.fl
   simp only [BS,LB,cls,Nat.reduceLT,Nat.reduceEqDiff,Nat.reduceAdd,Nat.reducePow,Nat.reduceDiv,Nat.reduceMod,Nat.reduceLeDiff]
   refine dw (S.store (i:=0) rfl Tryz.t114.2.1 (by intro x e;cases e) rfl (by simp only [ah,XB,XD,f1.2.1,f2.2.1,Xk];rfl) (lbt rfl) ono) ?_
   clear S;rintro h7 ⟨S,mo⟩
   simp only [LC,ah,lay,Xh,Xi,Nat.reduceAdd]at S
   simp only [BS,LB,cls,ab,Nat.reduceEqDiff,Nat.reduceAdd,Nat.reducePow,Nat.reduceDiv,Nat.reduceMod,Nat.reduceLeDiff]
   refine⟨by simp only [bz,bG,aW,bM,a8,ne_eq,not_false_eq_true,bS,cD,bD,bw,ca,c9,aO,Nat.reduceLT,Nat.reduceEqDiff,reduceIte,Xk,ae,aI P],?_⟩
   refine(dg (by decide) (by simp only [aO,ae,Nat.reduceEqDiff,reduceIte];exact cQ Tryz.t114.1 Tryz.t114.2.1 (S.lds (b:=O) (o:=0) (n:=3) m0 (lbt rfl)))).2 ?_
   refine(kM (by decide)).2 (dV.2 ?_)
   have t: ∀{p:GL},eZ h6 p->(∀c,ar p.1 c->hq.n<=c)->eZ h7 p:=fun {p} G j=>G.of_get fun c W=>mo.get c (G.lt g6.ok W) fun e=>by
    have:=j c (by
     rcases G with⟨K,_⟩|⟨b',n',K,_⟩
     . obtain⟨v,k,vs⟩:=p
       simp only []at K
       subst K
       cases W
     . obtain⟨v,k,vs⟩:=p
       simp only []at K
       subst K
       cases W
       rfl)
    omega
   exact⟨S.gr,_,F,rfl,⟨vA,vE,rfl,t G1 (fun c j=>(V c j).1),t G2 d2,fun c j=>⟨zO kS (zO kq (V c j).1),(V c j).2⟩,fun c j=>zO kS (zO kq (d2 c j))⟩,.inr ⟨H,he⟩⟩
def Tryz.F0v:=aj t1<|aj t2<|aj t3<|aj t4<|aj t33<|aj t77<|Z6
def Tryz.F0w:=aj t1<|aj t2<|aj t3<|aj t4<|aj t33<|aj t77<|Z6
def Tryz.F0x:=aj t1<|aj t2<|aj t3<|aj t4<|aj t5<|aj t22<|aj t78<|Z10
def Tryz.F0y:=aj t1<|aj t2<|aj t3<|aj t4<|aj t5<|aj t22<|aj t78<|Z10
def Tryz.F02:=aj t1<|aj t2<|aj t3<|aj t4<|aj t5<|aj t6<|aj Z3<|t74
def Tryz.F1a:=aj t1<|aj t3<|aj t4<|aj Z0<|aj t32<|aj t33<|aj t77<|aj Z6<|aj t189<|Z1
def ji(h:Hp)(p:Value)(m:List Int)(n:Int):Prop:=(p=.pointer none/\m=[]/\n=0)\/((∃k,jV h k p m)/\n=fu m+1)
theorem ji.gr{h a:Hp}{p:Value}{m:List Int}{n:Int}(g:Gr h a)(c:ji h p m n):ji a p m n:=c.imp (fun h=>h) (fun⟨⟨k,h⟩,e⟩=>⟨⟨k,h.gr g⟩,e⟩)
theorem map_ok{h0:Hp}(d:h0.t.Sized h0.n){p:Value}{m:List Int}{n:Int}(c:ji h0 p m n)(e:m.length<1000000):Ret zM 228 [p] h0 fun r a=>Gr h0 a/\av a 1 (encI .i64) r m:=by
 have S:=Si d
 rcases c with⟨rfl,rfl,rfl⟩|⟨⟨_,b,v,rfl,r,s,_,_⟩,rfl⟩
 . refine ac (n:=10) (rs:=[.tmp 2]) rfl Tryz.e228 rfl rfl rfl (lbt rfl) ?_
   simp only [BS,LB,ab,Nat.reduceLT,Nat.reduceEqDiff,F0v]
   exact⟨S.gr,.inl ⟨rfl,rfl⟩⟩
 . have f:=r.load1 (o:=0) rfl
   refine ac (n:=10) (rs:=[.tmp 2]) rfl Tryz.e228 rfl rfl rfl (lbt rfl) ?_
   simp only [BS,LB,Nat.reduceLT,Nat.reduceEqDiff,F0v,f]
   refine step_ret (jo S.ok (bK .i64) s e) ?_;intro v h ⟨g,sl,_⟩;replace S:=S.call g;clear g
   simp only [BS,LB,ab,Nat.reduceLT,Nat.reduceEqDiff]
   exact⟨S.gr,sl⟩
theorem vt{h0:Hp}(a:h0.t.Sized h0.n){p:Value}{m:List Int}{n:Int}(c:ji h0 p m n):aK zM 94 [p] h0 (.int .i64 n):=by
 have S:=Si a
 rcases c with⟨rfl,rfl,rfl⟩|⟨⟨_,b,v,rfl,r,s,_,_⟩,rfl⟩
 . refine ac (n:=9) (rs:=[.tmp 2]) rfl Tryz.e94 rfl rfl rfl (lbt rfl) ?_
   simp only [BS,LB,ab,Nat.reduceLT,Nat.reduceEqDiff,F0w]
   exact S.gr
 . have d:=r.load1 (o:=1) rfl
   refine ac (n:=9) (rs:=[.tmp 2]) rfl Tryz.e94 rfl rfl rfl (lbt rfl) ?_
   simp only [BS,LB,ab,Nat.reduceLT,Nat.reduceEqDiff,F0w,d]
   exact S.gr
def mT(h:Hp)(p:Value)(a w:Int)(c:Bool):Prop:=(p=.pointer none/\a=0/\w=0/\c=false)\/ ∃b x y,p=ptrTo b/\Row h b [.int .i64 a,.int .i64 w,x,y] 1/\c=true
theorem mT.gr{h d:Hp}{p:Value}{a w:Int}{f:Bool}(g:Gr h d)(c:mT h p a w f):mT d p a w f:=c.imp (fun h=>h) (fun⟨b,x,y,e,r,n⟩=>⟨b,x,y,e,r.gr g,n⟩)
theorem mH{h0:Hp}(d:h0.t.Sized h0.n){p:Value}{a w:Int}{e:Bool}(c:mT h0 p a w e):aK zM 177 [p] h0 (.int .i64 a):=by
 have S:=Si d
 rcases c with⟨rfl,rfl,rfl,rfl⟩|⟨b,x,y,rfl,r,rfl⟩
 . refine ac (n:=9) (rs:=[.tmp 2]) rfl Tryz.e177 rfl rfl rfl (lbt rfl) ?_
   simp only [BS,LB,ab,Nat.reduceLT,Nat.reduceEqDiff,F0x]
   exact S.gr
 . have f:=r.load1 (o:=0) rfl
   refine ac (n:=9) (rs:=[.tmp 2]) rfl Tryz.e177 rfl rfl rfl (lbt rfl) ?_
   simp only [BS,LB,ab,Nat.reduceLT,Nat.reduceEqDiff,F0x,f]
   exact S.gr
theorem j8{h0:Hp}(d:h0.t.Sized h0.n){p:Value}{a w:Int}{e:Bool}(c:mT h0 p a w e):aK zM 178 [p] h0 (.int .i64 w):=by
 have S:=Si d
 rcases c with⟨rfl,rfl,rfl,rfl⟩|⟨b,x,y,rfl,r,rfl⟩
 . refine ac (n:=9) (rs:=[.tmp 2]) rfl Tryz.e178 rfl rfl rfl (lbt rfl) ?_
   simp only [BS,LB,ab,Nat.reduceLT,Nat.reduceEqDiff,F0y]
   exact S.gr
 . have f:=r.load1 (o:=1) rfl
   refine ac (n:=9) (rs:=[.tmp 2]) rfl Tryz.e178 rfl rfl rfl (lbt rfl) ?_
   simp only [BS,LB,ab,Nat.reduceLT,Nat.reduceEqDiff,F0y,f]
   exact S.gr
theorem allB_ok{h0:Hp}(g:h0.t.Sized h0.n){v:Value}{l:List Bool}(j:av h0 1 encB v l)(m:l.length<1000):aK zM 262 [v] h0 (.bool (l.all id)):=by
 have S:=Si g
 refine ac (n:=14) (rs:=[.tmp 2]) rfl Tryz.e262 rfl rfl rfl (lbt rfl) ?_
 simp only [BS,LB,Nat.reduceLT,Nat.reduceEqDiff,F02,j.lenq]
 refine aQ (fun(i:Nat) d h=>i<=l.length/\(l.take i).all id=true/\Gr h0 h/\d 5=v/\d 6=.int .i64 l.length/\d 7=.int .i64 i) (fun i=>l.length-i) ?_ 0 _ _ ?_
 . clear S
   intro i k d h ⟨hi,ht,S,r5,r6,r7⟩
   by_cases hlt:i<l.length
   . obtain⟨c,o,a,b⟩:=(j.gr S).ix (kd:=.i64) xI hlt
     have w:an .i64 ((i:Int)+1)=((i+1:Nat):Int):=by rw [wrap64]<;>omega
     cases f:l[i]with
     | true=>
       simp only [BS,LB,Nat.reduceLT,Nat.reduceEqDiff,F02,r5,r6,r7,aA,hlt,a,b,encB,f,w]
       refine k (i+1) _ _ (by omega) ⟨by omega,?_,S,by simp [aa,r5],by simp [aa,r6],by simp [aa]⟩
       rw [XF hlt,List.all_append,ht,f];rfl
     | false=>
       have e:l.all id=false:=by rw [List.all_eq_false];exact⟨_,Xp hlt,by simp [f]⟩
       simp only [BS,LB,ab,Nat.reduceLT,Nat.reduceEqDiff,F02,r5,r6,r7,aA,hlt,a,b,encB,f]
       rw [e]
       exact⟨rfl,S⟩
   . simp only [BS,LB,ab,Nat.reduceLT,Nat.reduceEqDiff,r6,r7,aA,hlt]
     rw [XE (by omega)]at ht
     rw [ht]
     exact⟨rfl,S⟩
 . exact⟨XC _,rfl,Gr.refl g,by simp [aa,aP],by simp [aa],by simp [aa]⟩
theorem yo{h0:Hp}(f:h0.t.Sized h0.n){p q:Value}{b:Gra}{m:List Int}{n:Int}{i:Nat}(c:aV h0 i p b)(d:ji h0 q m n)(k:1<=b.nodes)(j:m.length<1000000):aK zM 168 [p,q] h0 (.bool (decide (m.length=b.nodes))):=by
 have S:=Si f
 have a:(0:Int)<(b.nodes:Int):=by omega
 have e:(b.nodes:Int)>0:=a
 refine ac (n:=16) (rs:=[.tmp 4]) rfl Tryz.e168 rfl rfl rfl (lbt rfl) ?_
 simp only [BS,LB,Nat.reduceLT,Nat.reduceEqDiff]
 refine am (cC S.ok c) ?_;intro h g;replace S:=S.call g;replace c:=c.gr g;replace d:=d.gr g;clear g
 simp only [BS,LB,Nat.reduceLT,Nat.reduceEqDiff,a]
 refine step_ret (map_ok S.ok d j) ?_;intro v h ⟨g,sl⟩;replace S:=S.call g;replace c:=c.gr g;replace d:=d.gr g;clear g
 simp only [BS,LB,Nat.reduceLT,Nat.reduceEqDiff,F1a,sl.lenq]
 refine am (cC S.ok c) ?_;intro h g;replace S:=S.call g;replace c:=c.gr g;replace d:=d.gr g;clear g
 simp only [BS,LB,ab,Nat.reduceLT,Nat.reduceEqDiff]
 refine⟨?_,S.gr⟩
 congr 1
 by_cases h:m.length=b.nodes
 . simp [h]
 . have: ¬((m.length:Int)=(b.nodes:Int)):=by omega
   simp [h,this]
theorem sQ{h0:Hp}(s:h0.t.Sized h0.n){p q r:Value}{f:Gra}{m:List Int}{n a w:Int}{i:Bool}{t:Nat}(c:aV h0 t p f)(d:ji h0 q m n)(e:mT h0 r a w i)(u:1<=f.nodes)(v:m.length<1000000):
 aK zM 236 [p,q,r] h0 (.bool (decide (m.length=f.nodes)&&i&&decide (a=n)&&decide (w=f.arcs.length))):=by
 have S:=Si s
 have z: ∀E:Env,nJ E 78=true-> ∀x y,a9 E .neq 78 x y r (.pointer none)=some (.bool i):=by
  intro E j x y
  rcases e with⟨rfl,_,_,rfl⟩|⟨b,_,_,rfl,_,rfl⟩
  . exact n_pnil j
  . exact n_ptr j
 refine ac (n:=24) (rs:=[.tmp 6]) rfl Tryz.e236 rfl rfl rfl (lbt rfl) ?_
 simp only [BS,LB,Nat.reduceLT,Nat.reduceEqDiff]
 refine am (yo S.ok c d u v) ?_;intro h g;replace S:=S.call g;replace c:=c.gr g;replace d:=d.gr g;replace e:=e.gr g;clear g
 simp only [BS,LB,Nat.reduceLT,Nat.reduceEqDiff,z zM Tryz.t78.2.2.2.2.1]
 refine am (mH S.ok e) ?_;intro h g;replace S:=S.call g;replace c:=c.gr g;replace d:=d.gr g;replace e:=e.gr g;clear g
 simp only [BS,LB,Nat.reduceLT,Nat.reduceEqDiff]
 refine am (vt S.ok d) ?_;intro h g;replace S:=S.call g;replace c:=c.gr g;replace d:=d.gr g;replace e:=e.gr g;clear g
 simp only [BS,LB,Nat.reduceLT,Nat.reduceEqDiff]
 refine am (j8 S.ok e) ?_;intro h g;replace S:=S.call g;replace c:=c.gr g;replace d:=d.gr g;replace e:=e.gr g;clear g
 simp only [BS,LB,Nat.reduceLT,Nat.reduceEqDiff]
 refine am (kZ S.ok c) ?_;intro h g;replace S:=S.call g;replace c:=c.gr g;replace d:=d.gr g;replace e:=e.gr g;clear g
 simp only [BS,LB,Nat.reduceLT,Nat.reduceEqDiff]
 refine ag (bI (by exact Tryz.t74.1) (by exact Tryz.e4E) (by decide) (by rfl)) S ?_;clear S;intro h A S k;simp only [LC,aT,bA,ah,Nat.reduceMul,Nat.reduceAdd,Xr,Xs,Xn,Xv]at S
 simp only [BS,LB,Nat.reduceLT,Nat.reduceEqDiff]
 refine am (allB_ok (l:=[decide (m.length=f.nodes),i,decide (a=n),decide (w=f.arcs.length)]) S.ok (.inr ⟨A,0,none,4,rfl,Xw _,S.lds (o:=0) (n:=4) m0 (lbt rfl)⟩) (by simp)) ?_;intro h g;replace S:=S.call g;clear g
 simp only [BS,LB,ab,Nat.reduceLT,Nat.reduceEqDiff]
 exact⟨by simp [Bool.and_assoc],S.gr⟩
def iota(k:Nat):List Int:=(Xe k).map fun(i:Nat)=>(i:Int)
theorem zx(k:Nat):(iota k).length=k:=by simp [iota]
theorem wU(k:Nat):iota (k+1)=iota k++[(k:Int)]:=by simp [iota,List.range_succ]
theorem pos_app(l:List Int)(x y:Int):pos (l++[y]) x=match pos l x with|some i=>some i|none=>if x=y then some l.length else none:=by
 induction l with
 |nil=>simp [pos]
 | cons z a b=>
   rw [XR,pos,pos]
   by_cases h:x=z
   . rw [if_pos h,if_pos h]
   . rw [if_neg h,if_neg h,b]
     cases pos a x with
     |some i=>rfl
     |none=>by_cases c:x=y<;>simp [c]
theorem ym(k j:Nat):pos (iota k) (j:Int)=if j<k then some j else none:=by
 induction k with
 |zero=>rfl
 | succ k a=>
   rw [wU,pos_app,a,zx]
   by_cases h:j<k
   . rw [if_pos h,if_pos (show j<k+1 by omega)]
   . rw [if_neg h]
     by_cases b:j=k
     . subst b;simp
     . have: ¬((j:Int)=(k:Int)):=by omega
       simp only [this,if_false];rw [if_neg (by omega)]
theorem pos_lt{l:List Int}{x:Int}{i:Nat}(h:pos l x=some i):i<l.length:=by
 induction l generalizing i with
 |nil=>cases h
 | cons y b c=>
   rw [pos]at h
   by_cases e:x=y
   . rw [if_pos e]at h;cases h;simp
   . rw [if_neg e]at h
     cases a:pos b x with
     |none=>rw [a]at h;cases h
     |some j=>rw [a]at h;cases h;have:=c a;simp;omega
theorem norm_idem(ks l:List Int):norm (iota ks.length) (norm ks l)=norm ks l:=by
 induction l generalizing ks with
 |nil=>rfl
 | cons x c a=>
   rw [norm,norm]
   unfold mC mr
   cases b:pos ks x with
   | some i=>
     simp only []
     rw [ym,if_pos (pos_lt b)]
     simp only []
     rw [a]
   | none=>
     simp only []
     rw [ym,if_neg (by omega)]
     simp only []
     rw [zx,<-wU]
     have:=a (ks++[x])
     rw [List.length_append,XV]at this
     rw [this]
theorem norm_bd(ks l:List Int): ∀x∈norm ks l,0<=x/\x<=((ks.length+l.length:Nat):Int):=by
 induction l generalizing ks with
 |nil=>intro x a;cases a
 | cons y e b=>
   intro x a
   rw [norm]at a
   rcases List.mem_cons.1 a with rfl|a
   . have:mC ks y<=ks.length:=by
      unfold mC
      cases c:pos ks y with
      |some i=>exact X5 (pos_lt c)
      |none=>exact Xw _
     simp;omega
   . have d:=b _ x a
     have:(mr ks y).length<=ks.length+1:=by
      unfold mr
      cases pos ks y<;>simp
     simp at d⊢;omega
theorem fold_bd(K:Int)(l:List Int)(a:Int)(b:0<=a/\a<=K)(h: ∀x∈l,0<=x/\x<=K):0<=l.foldl max a/\l.foldl max a<=K:=by
 induction l generalizing a with
 |nil=>exact b
 | cons x e c=>
   have f:=h x (by simp)
   exact c (max a x) (by omega) (fun y d=>h y (by simp [d]))
theorem lmax_bd{K:Int}(a:0<=K){l:List Int}(h: ∀x∈l,0<=x/\x<=K):0<=fu l/\fu l<=K:=by
 cases l with
 |nil=>exact⟨Int.le_refl _,a⟩
 |cons x b=>exact fold_bd K b x (h x (by simp)) (fun y c=>h y (by simp [c]))
theorem av.blt{α:Type}{h:Hp}{k:Nat}{enc:α->List Value}{v:Value}{xs:List α}(e:h.t.Sized h.n)(s:av h k enc v xs){c:Nat}(a:ar v c):c<h.n:=by
 rcases s with⟨rfl,_⟩|⟨b,o,_,_,rfl,_,f⟩
 . exact a.elim
 . have:b=c:=a
   subst this
   cases d:h.get b with
   |none=>simp [Hp.load,d]at f
   |some x=>exact fQ e d
def Tryz.FD:=aj t1<|aj t2<|aj t3<|aj t4<|aj t5<|aj Z0<|aj t32<|aj t33<|aj Z2<|aj t189<|aj Z1<|aj t192<|t350
def nU(A:List Arc)(f:Arc->Nat)(a:List Nat):List (List Value):=a.map fun(id:Nat)=>[.int .i64 id,.agg ⟨cP ⟨0,f (A.getD id default),(A.getD id default).w⟩⟩]
theorem arcs_ok'{h0:Hp}(g:h0.t.Sized h0.n){p e f:Value}(i:Fl p)(j:Fl e)(k:Fl f):Ret zM 212 [p,e,f] h0 fun v d=>Gr h0 d/\ ∃b1 b2 b3,v=.func (.func 251) #[] #[ptrTo b1,ptrTo b2,ptrTo b3]/\h0.n<=b1/\h0.n<=b2/\h0.n<=b3/\d.load b1 0 1=some [e]/\d.load b2 0 1=some [p]/\d.load b3 0 1=some [f]:=by
 have S:=Si g
 refine ac (n:=8) (rs:=[.tmp 6]) rfl Tryz.e212 rfl rfl rfl (lbt rfl) ?_
 simp only [BS,Nat.reduceLT]
 refine ag (bN (by assumption)) S ?_;clear S;intro h b2 S a
 simp only [BS,Nat.reduceLT,Nat.reduceEqDiff,if_false]
 refine ag (bN (by assumption)) S ?_;clear S;intro h b1 S b
 simp only [BS,Nat.reduceLT,Nat.reduceEqDiff,if_false]
 refine ag (bN (by assumption)) S ?_;clear S;intro h b3 S c
 simp only [BS,LB,ab,Nat.reduceLT,Nat.reduceEqDiff]
 exact⟨S.gr,b1,b2,b3,rfl,b,a,c,S.ld m1 rfl,S.ld m2 rfl,S.ld m0 rfl⟩
theorem arcs_it{hq h0:Hp}(D:hq.t.Sized hq.n)(l:h0.t.Sized h0.n)(O:dT hq h0)(P:hq.n<=h0.n){p t:Value}{k:Gra}{H b1 b2 b3:Nat}(Q:aV hq H p k){d:List Nat}(I:av h0 1 ce t d)(u: ∀id∈d,id<k.arcs.length)(K:d.length<1000){g:FuncId}{f:Arc->Nat}(R:KeyF zM g f)
 (T:h0.load b1 0 1=some [t]) (U:h0.load b2 0 1=some [p]) (V:h0.load b3 0 1=some [.func (.func g) #[] #[]]):
 kU zM 251 [] [ptrTo b1,ptrTo b2,ptrTo b3] h0 (fun c=>c=b1\/c=b2\/c=b3\/ar t c\/c<hq.n) (nU k.arcs f d):=by
 intro W J Z X Y h F s B
 refine enter (n:=32) (rs:=[]) rfl Tryz.e251 rfl rfl rfl (lbt rfl) ?_
 have L:=s.load l T (.inl rfl)
 simp only [BS,LB,Nat.reduceLT,FD,L,I.lenq]
 refine aQ (fun(i:Nat) m h=>i<=d.length/\ ∃F,ItS h0 (fun c=>c=b1\/c=b2\/c=b3\/ar t c\/c<hq.n) h F/\J i h F/\m 0=.func (.yield W) #[] #[]/\m 1=ptrTo b1/\m 2=ptrTo b2/\m 3=ptrTo b3/\m 9=t/\m 10=.int .i64 d.length/\m 11=.int .i64 i) (fun i=>d.length-i) ?_ 0 _ _ ?_
 . clear L
   intro i ih m h ⟨hi,F,s,B,r0,r1,r2,r3,r9,r10,r11⟩
   by_cases hlt:i<d.length
   . obtain⟨c,o,y,E⟩:=(s.sl l I (fun b h=>.inr (.inr (.inr (.inl h))))).ix (kd:=.i64) dG hlt
     have l2:=s.load l U (.inr (.inl rfl))
     have l3:=s.load l V (.inr (.inr (.inl rfl)))
     have z:=u _ (Xp hlt)
     have nt:aV h H p k:=Q.keep D (s.keep O P (fun c hc=>.inr (.inr (.inr (.inr hc)))))
     have w:an .i64 ((i:Int)+1)=((i+1:Nat):Int):=by rw [wrap64]<;>omega
     have S:=Si s.ok
     simp only [BS,LB,Nat.reduceLT,Nat.reduceEqDiff,FD,r2,r9,r10,r11,aA,hlt,y,E,ce,l2]
     refine step_ret (kL S.ok nt z) ?_
     rintro v h2 ⟨r,rfl⟩
     replace S:=S.call r;clear r
     simp only [BS,LB,Nat.reduceLT,Nat.reduceEqDiff,FD]
     refine ag ax S ?_;clear S;intro h G S M
     simp only [BS,LB,Nat.reduceLT,Nat.reduceEqDiff,cP]
     refine ay (S.store (i:=0) rfl ?_ ?_ rfl rfl ?_ ono) ?_
     . exact(by exact Tryz.t99.2.1)
     . exact(by intro x e;cases e)
     . exact lbt rfl
     clear S;rintro h ⟨S,mo⟩;clear mo;simp only [LC,ah,lay,Xh,Xi,Nat.reduceAdd]at S
     simp only [BS,LB,Nat.reduceLT,Nat.reduceEqDiff]
     refine aw (aB rfl) (q:=0) (ps:=[(4,6)]) (by kernel_rfl) ?_
     simp only [BS,LB,cls,Nat.reduceLT,Nat.reduceEqDiff,Nat.reduceAdd,Nat.reducePow,Nat.reduceDiv,Nat.reduceMod,Nat.reduceLeDiff,FD,r0,r3,S.old l3 (fun h=>h),S.lds (b:=G) (o:=0) (n:=3) m0 (lbt rfl)]
     have A:=(S.row (b:=G) m0).lt S.ok
     refine bZ (R _ k.arcs[d[i]] S.ok) ?_
     intro N r
     have C:=aq r A
     replace S:=S.call r;clear r
     simp only [BS,LB,cls,Nat.reduceLT,Nat.reduceEqDiff,Nat.reduceAdd,Nat.reducePow,Nat.reduceDiv,Nat.reduceMod,Nat.reduceLeDiff,FD,S.ld (b:=G) (o:=2) m0 rfl]
     have gd:k.arcs.getD d[i] default=k.arcs[d[i]]:=by simp [Xa,z]
     have hx:(nU k.arcs f d)[i]? =some [.int .i64 (d[i]:Nat),.agg ⟨[.int .i64 0,.int .i64 (f k.arcs[d[i]]:Nat),.int .i64 (k.arcs[d[i]].w:Nat)]⟩]:=by
      unfold nU
      rw [Xz,Xc hlt]
      simp only [XJ,gd]
      rfl
     refine dn_yield X Y (s.gr S.gr) (Y.gr _ _ _ _ B S.gr) (j:=i) hx ?_ ?_
     . intro N F' a s' _ _
       simp only [BS,LB,cls,Nat.reduceLT,Nat.reduceEqDiff,Nat.reduceAdd,Nat.reducePow,Nat.reduceDiv,Nat.reduceMod,Nat.reduceLeDiff,r11,w]
       refine⟨by simp only [bz,bG,aW,bM,a8,ne_eq,not_false_eq_true,bS,cD,bD,bw,ca,c9,aO,Nat.reduceLT,Nat.reduceEqDiff,reduceIte,Xk,r0,r1,r2,r3,ae,aI C,aE C],?_⟩
       exact ih (i+1) _ _ (by omega) ⟨by omega,F',s',a,by simp [aa,r0],by simp [aa,r1,ae],by simp [aa,r2,ae],by simp [aa,r3,ae],by simp [aa,r9],by simp [aa,r10],by simp [aa]⟩
     . intro N a _
       simp only [BS,LB,cls,Nat.reduceLT,Nat.reduceEqDiff,Nat.reduceAdd,Nat.reducePow,Nat.reduceDiv,Nat.reduceMod,Nat.reduceLeDiff]
       refine⟨by simp only [bz,bG,aW,bM,a8,ne_eq,not_false_eq_true,bS,cD,bD,bw,ca,c9,aO,Nat.reduceLT,Nat.reduceEqDiff,reduceIte,Xk,r0,r1,r2,r3,ae,aI C,aE C],?_⟩
       exact fm rfl ⟨rfl,.inr (.inl ⟨_,rfl,a⟩)⟩
   . simp only [BS,LB,Nat.reduceLT,r10,r11,aA,hlt]
     have:i=d.length:=by omega
     subst this
     exact bT (cG ⟨rfl,_,rfl,rfl,.inl ⟨_,F,rfl,by simpa [nU]using B⟩⟩)
 . exact⟨by omega,F,s,B,by simp [aa,bV],by simp [aa,bV,ae],by simp [aa,bV,ae],by simp [aa,bV,ae],by simp [aa],by simp [aa],by simp [aa]⟩
def Tryz.Ft:=aj t1<|aj t2<|aj t3<|aj t4<|aj t5<|aj t24<|aj t33<|aj t45<|aj t218<|aj Z16<|aj t275<|aj t292<|aj t296<|aj r296<|aj Z7<|Z8
theorem ints_set(l:List Int)(i:Nat)(x:Int):(ints l).set i (.int .i64 x)=ints (l.set i x):=by
 have a: ∀l:List Int,ints l=l.map fun x=>Value.int .i64 x:=fun l=>by
  unfold ints;rw [Xf,Xx,Xf];rfl
 rw [a,a,List.map_set]
theorem reach_ok{h0:Hp}(ok:h0.t.Sized h0.n){D d I c N v arc far:Nat}{p V vO:Value}{F:List Nat}{K:Nat->Option Int}{O:List Nat}{W:List (Value×Value×Nat)}{f:Int->Option Value}{j:List Int}
 (R:Row h0 D [p,V,.slice (some ⟨d,0,none⟩) N N,vO,.map (some I)] 1) (H:cN h0 F p N K) (hN:N<=1000) (a:h0.get I=some (.map W c)) (MI:dy W c f) (CF:ClF O f) (t:Row h0 d (ints j) 1) (E:j.length=N) (J:v<N)
 (T:d∉F) (d2:D∉F) (d3:D≠d):
 Ret zM 213 [ptrTo D,.int .i64 v,.int .i64 arc,.int .i64 far] h0 fun _ X=>Mo (fun c=>c∈F\/c=d) h0 X/\ ∃F' m,cN X F' p N (iB O K v far)/\(∀b∈F',b∈F\/h0.n<=b)/\Row X d (ints m) 1/\m.length=N/\((iB O K v far=K/\m=j)\/(v∉O/\iB O K v far=cL K v (some (far:Int))/\m=j.set v arc)):=by
 have S:=Si ok
 have ad:=t.lt ok
 have L:=R.load1 (o:=0) rfl
 have G:=R.load1 (o:=4) rfl
 have l2:=R.load1 (o:=2) rfl
 have pp: ∃b,p=ptrTo b:=by obtain⟨b,_,_,e,_⟩:=H.ex;exact⟨b,e⟩
 obtain⟨bp,rfl⟩:=pp
 refine ac (n:=59) (rs:=[]) rfl Tryz.e213 rfl rfl rfl (lbt rfl) ?_
 simp only [BS,LB,Nat.reduceLT,Nat.reduceEqDiff,Ft,L]
 refine am (uU S.ok H) ?_
 intro h g;replace S:=S.call g;clear g
 replace a:h.get I=some (.map W c):=S.gr.at a
 have U:=H.gr S.gr
 have y:=pZ (x:=(v:Int)) Tryz.t218.1 Tryz.t3.1 (z:=.int .i64 0) (by kernel_rfl) a MI
 rw [CF v]at y
 replace L:=S.old L (fun h=>h)
 replace G:=S.old G (fun h=>h)
 replace l2:=S.old l2 (fun h=>h)
 replace t:Row h d (ints j) 1:=t.gr S.gr
 have R1:=R.gr S.gr
 have u:=S.gr
 by_cases q:v∈O
 . rw [if_pos q,XG]at y
   simp only [BS,LB,Nat.reduceLT,Nat.reduceEqDiff,Int.reduceLT,Ft,G,y]
   exact⟨u.fr,F,j,by unfold iB;rw [if_pos q];exact U,fun b l=>.inl l,t,E,.inl ⟨by unfold iB;rw [if_pos q],rfl⟩⟩
 . rw [if_neg q,XS]at y
   have af:=t.lt u.ok
   cases M:K v with
   | none=>
     have w:iB O K v far=cL K v (some (far:Int)):=by unfold iB;rw [if_neg q,M]
     simp only [BS,LB,Nat.reduceLT,Nat.reduceEqDiff,Int.reduceLT,Ft,L,G,y,XS,Option.isSome_none]
     refine step_ret (pL u.ok U J hN M) ?_
     rintro r A ⟨s,F',Y,P⟩
     have B:Row A d (ints j) 1:=s.has (o:=.row _ 1) t T
     have Z:Row A D [ptrTo bp,V,.slice (some ⟨d,0,none⟩) N N,vO,.map (some I)] 1:=s.has (o:=.row _ 1) R1 d2
     have C:=Z.load1 (o:=2) rfl
     have S:=St.init1 s.ok (o:=.row _ 1) B
     simp only [BS,LB,Nat.reduceLT,Nat.reduceEqDiff,Nat.reduceAdd,Ft,C,J]
     refine ay (az S (i:=0) rfl Tryz.t3.2.2.1 bU (by rw [cq,E];exact J) ono) ?_
     clear S;rintro h3 ⟨S,Q⟩
     simp only [LC]at S
     rw [ints_set]at S
     simp only [BS]
     refine⟨(u.fr.trans (s.mono (fun c a=>.inl a)) (fun c a=>.inl a):Mo (fun c=>c∈F\/c=d) h0 A).trans Q (fun c a=>.inl (.inr a)),F',j.set v arc,by rw [w];exact Y.mo Q (fun b l e=>by subst e;rcases P b l with h|h;exact T h;omega),fun b l=>(P b l).imp (fun h=>h) (fun h=>zO u.n h),S.row m0,by rw [XI];exact E,.inr ⟨q,w,rfl⟩⟩
   | some k=>
     by_cases hle:k<=(far:Int)
     . have w:iB O K v far=K:=by unfold iB;rw [if_neg q,M];simp only [];rw [if_pos hle]
       simp only [BS,LB,Nat.reduceLT,Nat.reduceEqDiff,Int.reduceLT,Ft,G,y,hle,XG]
       exact⟨u.fr,F,j,by rw [w];exact U,fun b l=>.inl l,t,E,.inl ⟨w,rfl⟩⟩
     . have w:iB O K v far=cL K v (some (far:Int)):=by unfold iB;rw [if_neg q,M];simp only [];rw [if_neg hle]
       simp only [BS,LB,Nat.reduceLT,Nat.reduceEqDiff,Int.reduceLT,Ft,L,G,y,hle,XG]
       refine step_ret (q9 u.ok U hN M (by omega)) ?_
       rintro r A ⟨s,Y⟩
       have B:Row A d (ints j) 1:=s.has (o:=.row _ 1) t T
       have Z:Row A D [ptrTo bp,V,.slice (some ⟨d,0,none⟩) N N,vO,.map (some I)] 1:=s.has (o:=.row _ 1) R1 d2
       have C:=Z.load1 (o:=2) rfl
       have S:=St.init1 s.ok (o:=.row _ 1) B
       simp only [BS,LB,Nat.reduceLT,Nat.reduceEqDiff,Nat.reduceAdd,Ft,C,J]
       refine ay (az S (i:=0) rfl Tryz.t3.2.2.1 bU (by rw [cq,E];exact J) ono) ?_
       clear S;rintro h3 ⟨S,Q⟩
       simp only [LC]at S
       rw [ints_set]at S
       simp only [BS]
       refine⟨(u.fr.trans (s.mono (fun c a=>.inl a)) (fun c a=>.inl a):Mo (fun c=>c∈F\/c=d) h0 A).trans Q (fun c a=>.inl (.inr a)),F,j.set v arc,by rw [w];exact Y.mo Q (fun b l e=>by subst e;exact T l),fun b l=>.inl l,S.row m0,by rw [XI];exact E,.inr ⟨q,w,rfl⟩⟩
def Tryz.F8:=aj t1<|aj t2<|aj t3<|aj t4<|aj t5<|aj t6<|aj Z3<|aj Z4<|aj t9<|aj t10<|aj t11<|aj t12<|aj Z15<|aj Z22<|aj t15<|aj t16<|aj t17<|aj t24<|aj Z0<|aj t32<|aj t33<|aj t45<|aj t58<|aj Z2<|aj t101<|aj r101<|aj Z24<|aj t181<|aj t189<|aj Z1<|aj t192<|aj t218<|aj Z16<|aj t271<|aj t275<|aj t292<|aj t296<|aj r296<|aj t298<|aj Z7<|aj Z8<|aj t358<|aj Z19<|aj t372<|aj t374<|aj t376<|aj t377<|aj t378<|aj t379<|Z18
def seen(A:List Arc)(fs ft:Arc->Nat):List Arc:=A.map fun a=>⟨fs a,ft a,a.w⟩
def NextF(E:Env)(g:FuncId)(a:Gra)(b:Value)(fs:Arc->Nat):Prop:= ∀(h:Hp) (e:Nat),h.t.Sized h.n->aV h e b a-> ∀v,v<a.nodes->Ret E g [b,.int .i64 (v:Nat)] h fun r d=>Gr h d/\av d 1 ce r (outs a.arcs fs a.arcs.length v)/\ ∀c,ar r c->h.n<=c
def dZ(l:List Nat):List Value:=l.flatMap ce
theorem kH(l:List Nat):dZ l=l.map fun(x:Nat)=>Value.int .i64 x:=by
 unfold dZ;rw [Xf,Xx,Xf];rfl
theorem ints_map(l:List Int):ints l=l.map fun x=>Value.int .i64 x:=by
 unfold ints;rw [Xf,Xx,Xf];rfl
theorem oH(l:List Nat):(dZ l).length=l.length:=by rw [kH,Xl]
theorem nats_app(l:List Nat)(x:Nat):dZ (l++[x])=dZ l++dZ [x]:=by rw [kH,kH,kH,List.map_append]
theorem seen_at{A:List Arc}{fs ft:Arc->Nat}{i:Nat}(a:i<A.length):(seen A fs ft).getD i default=⟨fs (A.getD i default),ft (A.getD i default),(A.getD i default).w⟩/\(seen A fs ft).getD i default∈seen A fs ft:=by
 have e:(seen A fs ft).getD i default=⟨fs (A.getD i default),ft (A.getD i default),(A.getD i default).w⟩:=by
  unfold seen;simp [Xa,a]
 refine⟨e,?_⟩
 rw [Xa,Xc (by unfold seen;simpa using a)]
 exact Xp _
theorem seen_mem{A:List Arc}{fs ft:Arc->Nat}{a:Arc}(c:a∈seen A fs ft): ∃i,i<A.length/\(seen A fs ft).getD i default=a:=by
 obtain⟨i,b,e⟩:=List.mem_iff_getElem.1 c
 exact⟨i,by unfold seen at b;simpa using b,by simp [Xa,b,e]⟩
def uW(a:Hp)(m:Nat)(r:Value)(B:List Arc)(s N:Nat):Prop:= ∃b d e D f O,r=.agg ⟨[b,d,e]⟩/\av a 1 ce b ((Xe N).map D)/\av a 1 (encI .i64) d f/\av a 1 ce e O/\f.length=N/\(∀v,IsD B s v (D v))/\(∀c,ar b c\/ar d c\/ar e c->m<=c)/\O.Nodup/\ ∀v∈O,v<N
theorem s8{h0:Hp}(d:h0.t.Sized h0.n){F:List Nat}{p:Value}{N:Nat}{K:Nat->Option Int}(H:cN h0 F p N K)(e:N<=1000):Ret zM 202 [p] h0 fun r a=> ∃(v:Nat) (k:Int) (b:Bool),r=.tuple #[.int .i64 (v:Nat),.int .i64 k,.bool b]/\Mo (· ∈F) h0 a/\cN a F p N (if b=true then cL K v none else K)/\(b=true->K v=some k/\ ∀u k',K u=some k'->k<=k')/\(b=false-> ∀v,K v=none):=by
 refine qx (uz d H e) ?_
 rintro r a (⟨rfl,c,g⟩|⟨v,k,rfl,c,f,i,j⟩)
 . exact⟨0,0,false,rfl,g.fr,H.gr g,fun h=>(by cases h),fun _=>c⟩
 . exact⟨v,k,true,rfl,i,j,fun _=>⟨c,fun u k' h=>by have:=f u k' h;omega⟩,fun h=>(by cases h)⟩
def FloodI(h0:Hp)(B:List Arc)(s N m g i j k n o t:Nat)(y z:FuncId)(O:List Nat)(ρ:Nat->Value)(d:List Deferred)(h:Hp):Prop:=
 ∃ (e:List Nat) (D:Nat->Nat) (K:Nat->Option Int) (F:List Nat) (p:List (Value×Value×Nat)) (c:Nat) (f:Int->Option Value) (q:List Int) (l:Value) (r:Nat) (v:Nat) (a:Int) (b:Bool),d=e.map pj/\
   St NoM h0 h ([(r,Ob.row [.int .i64 a] 1),(m,.row [ptrTo g] 1),(g,.row [ptrTo o,.slice (some ⟨k,0,none⟩) N N,.slice (some ⟨j,0,none⟩) N N,l,.map (some i)] 1),(i,.map p c),(j,.row (ints q) 1),(k,.row (dZ ((Xe N).map D)) 1),(n,.row [.slice none 0 0,.slice none 0 0,.slice none 0 0] 1)]++cV e) [(l,1,dZ O)]/\
   (∀w∈F,h0.n<=w/\w∉keys ([(r,Ob.row [.int .i64 a] 1),(m,.row [ptrTo g] 1),(g,.row [ptrTo o,.slice (some ⟨k,0,none⟩) N N,.slice (some ⟨j,0,none⟩) N N,l,.map (some i)] 1),(i,.map p c),(j,.row (ints q) 1),(k,.row (dZ ((Xe N).map D)) 1),(n,.row [.slice none 0 0,.slice none 0 0,.slice none 0 0] 1)]++cV e) [(l,1,dZ O)])/\
   q.length=N/\dy p c f/\ClF O f/\Dj B s N O D K (fun _=>False)/\cN h F (ptrTo o) N (if b=true then cL K v none else K)/\(b=true->K v=some a/\ ∀u x,K u=some x->a<=x)/\(b=false-> ∀v,K v=none)/\
   ρ 0=ptrTo t/\ρ 2=.func (.func y) #[ptrTo t] #[]/\ρ 3=.func (.func z) #[] #[]/\ρ 8=ptrTo n/\ρ 9=ptrTo m/\ρ 10=.int .i64 v/\ρ 11=ptrTo r/\ρ 12=.bool b
theorem yC {h0:Hp} (ok:h0.t.Sized h0.n) {l:Gra} (al:Good l) {pn:Value} {nb:Nat} (hn:aV h0 nb pn l) {s:Nat} (hs:s<l.nodes) {gN gE:FuncId} {fs ft:Arc->Nat} (hN:NextF zM gN l pn fs) (hE:KeyF zM gE ft) (bm: ∀a∈l.arcs,ft a<l.nodes):
 Ret zM 134 [pn,.int .i64 s,.func (.func gN) #[pn] #[],.func (.func gE) #[] #[]] h0 fun r h'=>Gr h0 h'/\uW h' h0.n r (seen l.arcs fs ft) s l.nodes:=by
 have n1:=al.n1
 have n2:=al.n2
 have S:=Si ok
 have c1: ¬((s:Int)<0):=by omega
 have c2: ¬((l.nodes:Int)<=(s:Int)):=by omega
 obtain⟨bp,b7⟩: ∃b,pn=ptrTo b:=by obtain⟨b,_,_,_,_,_,e,_⟩:=hn.ex;exact⟨b,e⟩
 subst b7
 refine ac (n:=117) (rs:=[.cell 8 222]) rfl Tryz.e134 rfl rfl rfl (lbt rfl) ?_
 simp only [BS,F8]
 refine ag ax S ?_;clear S;intro h W S cs
 simp only [BS,LB,Nat.reduceLT,Nat.reduceEqDiff,F8,c1]
 refine am (cC S.ok (hn.gr S.gr)) ?_;intro h g;replace S:=S.call g;clear g
 simp only [BS,LB,Nat.reduceLT,Nat.reduceEqDiff,c2]
 refine am (cC S.ok (hn.gr S.gr)) ?_;intro h g;replace S:=S.call g;clear g
 simp only [BS,LB,Nat.reduceLT,Nat.reduceEqDiff]
 have nF:=S.fr.n
 have kF:=fun {c} (t:c∈_)=>S.key_lt (b:=c) t
 refine step_ret (uO S.ok) ?_;intro v h ⟨g,Fh,H,hFn⟩;replace S:=S.call g;clear g
 rename Value=>p
 have dF: ∀c∈Fh,c∉keys [(W,Ob.row [.slice none 0 0,.slice none 0 0,.slice none 0 0] 1)] []:=fun c t w=>by have:=kF w;have:=hFn c t;omega
 have lF:=H.lt S.ok
 have Y:=S
 have gF: ∀c∈Fh,h0.n<=c\/NoM c:=fun c t=>.inl (zO nF (hFn c t))
 replace S:=S.base
 simp only [BS,LB]
 refine ag (bI (by exact Tryz.t24.1) (by exact Tryz.e2E) (by decide) (by rfl)) S ?_;clear S;intro h bo S a6;simp only [LC,aT,bA,ah,Nat.reduceMul,Nat.reduceAdd,Xr,Xs,Xn,Xv]at S
 simp only [BS,LB,Nat.reduceLT,Nat.reduceEqDiff]
 refine am (cC S.ok (hn.gr (Y.rebase S).gr)) ?_;intro h g;replace S:=S.call g;clear g
 simp only [BS,LB,Nat.reduceLT,Nat.reduceEqDiff]
 have kl:=fun {c} (t:c∈_)=>S.key_lt (b:=c) t
 have kn:=S.fr.n
 refine step_ret (rep64_ok S.ok (x:=72057594037927936) (.inr ⟨bo,0,none,1,rfl,Xw _,S.lds (b:=bo) (o:=0) (n:=1*1) m0 (lbt rfl)⟩) n1 (by omega)) ?_;intro v h ⟨g,bd,ed,nd,Rd⟩;replace S:=S.call g;clear g
 subst ed
 replace S:=S.drop1
 replace S:=S.push (b:=bd) (o:=.row _ 1) (.inl (zO kn nd)) Rd (fun w=>by have:=kl (Xg _ w);omega)
 simp only [BS,LB]
 refine ag (bI (by exact Tryz.t33.1) (by exact XL) (by decide) (by rfl)) S ?_;clear S;intro h bq S a7;simp only [LC,aT,bA,ah,Nat.reduceMul,Nat.reduceAdd,Xr,Xs,Xn,Xv]at S
 simp only [BS,LB,Nat.reduceLT,Nat.reduceEqDiff]
 refine am (cC S.ok (hn.gr (Y.rebase S).gr)) ?_;intro h g;replace S:=S.call g;clear g
 simp only [BS,LB,Nat.reduceLT,Nat.reduceEqDiff]
 have bt:=fun {c} (t:c∈_)=>S.key_lt (b:=c) t
 have a0:=S.fr.n
 refine step_ret (repI_ok S.ok (x:= -1) (.inr ⟨bq,0,none,1,rfl,Xw _,S.lds (b:=bq) (o:=0) (n:=1*1) m0 (lbt rfl)⟩) n1 (by omega)) ?_;intro v h ⟨g,ba,ea,na,Ra⟩;replace S:=S.call g;clear g
 subst ea
 replace S:=S.drop1
 replace S:=S.push (b:=ba) (o:=.row _ 1) (.inl (zO a0 na)) Ra (fun w=>by have:=bt (Xg _ w);omega)
 have pp: ∃b,p=ptrTo b:=by obtain⟨b,_,_,e,_⟩:=H.ex;exact⟨b,e⟩
 obtain⟨bP,rfl⟩:=pp
 simp only [BS,LB,Nat.reduceLT,Nat.reduceEqDiff,Nat.reduceAdd,F8]
 refine ag pT S ?_;clear S;intro h G S cv
 simp only [BS,LB,Nat.reduceLT,Nat.reduceEqDiff,Nat.reduceAdd,Nat.reduceLeDiff,F8]
 refine ag (bg (by intro x e;cases e)) S ?_;clear S;intro h C S cx;simp only [ah]at S
 simp only [BS,F8]
 refine ag ax S ?_;clear S;intro h I S cz
 simp only [BS,LB,Nat.reduceLT,Nat.reduceEqDiff]
 refine ay (az S (i:=0) rfl ?_ ?_ ?_ ono) ?_
 . exact(by simp only [F8])
 . exact(by exact ct)
 . exact Xd (lbt rfl)
 clear S;rintro h ⟨S,mo⟩;clear mo;simp only [LC,ah,lay,Xh,Xi,Nat.reduceAdd]at S
 simp only [BS,LB,Nat.reduceLT,Nat.reduceEqDiff,F8,S.ld (b:=I) (o:=0) m0 rfl,S.ld (b:=C) (o:=0) m1 rfl]
 have d8: ∀c∈Fh,c≠W:=fun c t e=>dF c t (by rw [e];simp [keys])
 have c3:=zO kn nd
 have c4:=zO a0 na
 clear kl bt kF kn nd a0 na Ra Rd
 have HA:=H.mo S.fr dF
 have bu: ∀c∈Fh,c≠I/\c≠C/\c≠G/\c≠ba/\c≠bd/\c≠W:=fun c t=>by have:=lF c t;have:=d8 c t;omega
 replace S:=Y.rebase S
 clear Y dF lF d8 H a6 a7
 have T:=S.baseF Fh
 have nh:=S.fr.n
 have bb: ∀L,(∀c∈keys L [],c=I\/c=C\/c=G\/c=ba\/c=bd\/c=W)-> ∀c∈Fh,c∉keys L []:=fun L hL c t w=>by
  have:=bu c t
  have:=hL c w
  omega
 have ps:Ret zM 200 [ptrTo bP,.int .i64 (s:Nat),.int .i64 0] h _:=pL S.ok HA hs (by omega) rfl
 refine step_ret ps ?_
 rintro r Q ⟨f1,F1,H1,J⟩
 replace S:=S.rebaseF gF (T.stepF f1 (fun c t=>⟨.inl (.inr t),bb _ (fun c t=>by simpa [keys]using t) c t⟩))
 have P: ∀c∈F1,h0.n<=c/\c∉keys [(I,Ob.row [ptrTo C] 1),(C,.row [ptrTo bP,.slice (some ⟨bd,0,none⟩) l.nodes l.nodes,.slice (some ⟨ba,0,none⟩) l.nodes l.nodes,.slice none 0 0,.map (some G)] 1),(G,.map [] 0),(ba,.row (Xb l.nodes (.int .i64 (-1))) 1),(bd,.row (Xb l.nodes (.int .i64 72057594037927936)) 1),(W,.row [.slice none 0 0,.slice none 0 0,.slice none 0 0] 1)] []:=fun c t=>by
  rcases J c t with h2|h2
  . exact⟨(gF c h2).elim (fun h=>h) (fun h=>h.elim),bb _ (fun c t=>by simpa [keys]using t) c h2⟩
  . refine⟨zO nh h2,fun w=>?_⟩
    have:=T.key_lt (b:=c) (by simpa [keys]using w)
    omega
 clear T bb bu hFn gF nF J HA f1
 replace S:=S.nilG (k:=1)
 have dj:=dj_init (B:=seen l.arcs fs ft) hs
 have bv:=H1.lt S.ok
 have S1:=S
 replace S:=S.baseF F1
 simp only [BS,LB,Nat.reduceLT,Nat.reduceEqDiff,F8,S.ld (b:=I) (o:=0) m0 rfl,S.ld (b:=C) (o:=0) m1 rfl]
 refine step_ret (s8 S.ok H1 (by omega)) ?_
 rintro r h2 ⟨v,k,b,rfl,f2,H2,a1,a2⟩
 replace S:=S.stepF f2 (fun c t=>⟨.inl (.inr t),fun w=>(P c t).2 (by simpa [keys,dU]using w)⟩)
 simp only [BS,LB,Nat.reduceLT,Nat.reduceEqDiff,F8]
 have S2:=S
 replace S:=S.base
 refine ag ax S ?_;clear S;intro h bk S cA
 simp only [BS,LB,Nat.reduceLT,Nat.reduceEqDiff]
 refine ay (az S (i:=0) rfl ?_ ?_ ?_ ono) ?_
 . exact(by simp only [F8])
 . exact(by exact bU)
 . exact Xd (lbt rfl)
 clear S;rintro h ⟨S,mo⟩;clear mo;simp only [LC,ah,lay,Xh,Xi,Nat.reduceAdd]at S
 simp only [BS,LB,Nat.reduceLT,Nat.reduceEqDiff]
 have H3:=H2.mo S.fr (fun c t w=>(P c t).2 (by simpa [keys,dU]using w))
 refine pg (FloodI h0 (seen l.arcs fs ft) s l.nodes I C G ba bd W bP bp gN gE) (fun O=>l.nodes-O.length) ?_ [] _ _ _ ?_
 . clear S S1 S2 H3 a1 a2 H2 f2 H1 dj P bv ps
   intro O ih ρ d hS ⟨dbs,D,K,F,es,c,f,aL,vO,bk,v,key,b,hd,Y,Z,lA,MI,CF,dj,H,a1,a2,r0,r2,r3,r8,r9,r10,r11,r12⟩
   simp only [XR,List.nil_append]at Y Z
   have S:=Y.base
   cases b with
   | false=>
     simp only [BS,LB,Nat.reduceLT,Nat.reduceEqDiff,F8,r8,r9,r12,S.ld (b:=I) (o:=0) m1 rfl,S.lds (b:=C) (o:=1) (n:=3) m2 (lbt rfl)]
     have be:Fl vO:=by
      rcases(Y.gown _ m0).1 with⟨e,_⟩|⟨_,_,e,_⟩
      . rw [show vO=_ from e];exact bj
      . rw [show vO=_ from e];exact bj
     refine ay (S.store (i:=6) rfl Tryz.t222.2.1 (by intro x e;cases e) rfl (by simp only [ah,List.drop_succ_cons,Xq,X3,List.take_zero,XB,XD,be.2.1,Xk];rfl) (lbt rfl) ono) ?_
     clear S;rintro h ⟨S,_⟩
     simp only [LC,ah,lay,Xh,Xi,Nat.reduceAdd]at S
     simp only [BS]
     replace S:=(Y.rebase S).permL (L':=cV dbs++[(bk,_),(I,_),(C,_),(G,_),(ba,_),(bd,_),(W,_)]) List.perm_append_comm
     subst hd
     refine dC (fi dbs _ S fun h' S'=>?_)
     have lT:=S'.lds (b:=W) (o:=0) (n:=3) m6 (lbt rfl)
     refine⟨rfl,_,rR (by decide) (by simp only [aO,r8,ae,Nat.reduceEqDiff,reduceIte];exact cQ Tryz.t222.1 Tryz.t222.2.1 lT),S'.gr,?_⟩
     refine⟨_,_,_,D,aL,O,rfl,?_,?_,?_,lA,dj.done (a2 rfl) n2,?_,dj.nd,dj.lt⟩
     . refine .inr ⟨bd,0,none,l.nodes,by rw [Xl,XA],by rw [Xl,XA];exact Xw _,?_⟩
       have:=(S'.row (b:=bd) m5).load (o:=0) (n:=((Xe l.nodes).map D).length*1) (by rw [oH];omega)
       rw [this,Xq,XE (by rw [oH];omega)];rfl
     . refine .inr ⟨ba,0,none,l.nodes,by rw [lA],by rw [lA];exact Xw _,?_⟩
       have:=(S'.row (b:=ba) m4).load (o:=0) (n:=aL.length*1) (by rw [cq];omega)
       rw [this,Xq,XE (by rw [cq];omega)];rfl
     . exact(S'.gown _ m0).1.sl rfl dG (by decide)
     . rintro c (h|h|h)
       . have h:bd=c:=h
         subst h;exact((S'.own _ m5).1).elim (fun h=>h) (fun h=>h.elim)
       . have h:ba=c:=h
         subst h;exact((S'.own _ m4).1).elim (fun h=>h) (fun h=>h.elim)
       . exact((S'.gblk m0 h).1).elim (fun h=>h) (fun h=>h.elim)
   | true =>
     simp only [if_true]at H
     obtain⟨hk,bx⟩:=a1 rfl
     obtain⟨_,n,rfl,_,_⟩:=dj.i3 v key hk
     obtain⟨cb,cc,bf,c5⟩:=dj.pop hk bx
     have lk:=pZ (x:=(v:Int)) Tryz.t218.1 Tryz.t3.1 (z:=.int .i64 0) (by kernel_rfl) (show hS.get G=some (.map es c)from(S.own _ m3).2) MI
     rw [CF v,if_neg cc,XS]at lk
     have w1:an .i64 1=1:=rfl
     simp only [BS,LB,Nat.reduceLT,Nat.reduceEqDiff,Int.reduceAdd,F8,r9,r10,r12,lk,w1,S.ld (b:=I) (o:=0) m1 rfl,S.ld (b:=C) (o:=4) m2 rfl]
     refine ay (S.mputI (i:=3) rfl Tryz.t218.1 Tryz.t3.1 MI _) ?_
     clear S;rintro h ⟨_,R,c',bB,S⟩
     simp only [LC]at S
     simp only [BS]
     refine aw (aB rfl) (q:=0) (ps:=[]) (by kernel_rfl) ?_
     simp only [BS,LB,cls,Nat.reduceLT,Nat.reduceEqDiff,Nat.reduceAdd,Nat.reducePow,Nat.reduceDiv,Nat.reduceMod,Nat.reduceLeDiff,F8,r9,r10,r11,bf,S.ld (b:=I) (o:=0) m1 rfl,S.ld (b:=C) (o:=1) m2 rfl,S.ld (b:=bk) (o:=0) m0 rfl]
     refine dw (az S (i:=5) rfl Tryz.t2.2.2.1 bU (by rw [oH,Xl,XA];exact bf) ono) ?_
     clear S;rintro h ⟨S,_⟩
     simp only [LC]at S
     have eD:(dZ ((Xe l.nodes).map D)).set v (.int .i64 (n:Nat))=dZ ((Xe l.nodes).map fun u=>if u=v then n else D u):=by
      rw [kH,kH,X6,X6]
      have:=iT (N:=l.nodes) (k:=v) (F:=(fun(x:Nat)=>Value.int .i64 x)∘D) (F':=(fun(x:Nat)=>Value.int .i64 x)∘fun u=>if u=v then n else D u) (fun u _ hu=>by simp [hu])
      rw [<-this];simp
     rw [eD]at S
     simp only [BS,LB,Nat.reduceAdd]
     refine aw (aB rfl) (q:=128) (ps:=[(0,8)]) (by kernel_rfl) ?_
     simp only [BS,LB,cls,Nat.reduceLT,Nat.reduceEqDiff,Nat.reduceAdd,Nat.reducePow,Nat.reduceDiv,Nat.reduceMod,Nat.reduceLeDiff,F8,r9,r10,S.ld (b:=I) (o:=0) m1 rfl,S.ld (b:=C) (o:=3) m2 rfl]
     refine dK (bI (by exact Tryz.t33.1) (by exact XL) (by decide) (by rfl)) S ?_;clear S;intro h bs S cT cW;simp only [LC,aT,bA,ah,Nat.reduceMul,Nat.reduceAdd,Xr,Xs,Xn,Xv]at S
     simp only [BS,LB,cls,Nat.reduceLT,Nat.reduceEqDiff,Nat.reduceAdd,Nat.reducePow,Nat.reduceDiv,Nat.reduceMod,Nat.reduceLeDiff]
     have bE:aJ h 1 (.slice (some ⟨bs,0,none⟩) 1 1)=some (1,dZ [v]):=by simp only [aJ];rw [S.lds (b:=bs) (o:=0) (n:=1*1) m0 (lbt rfl)];rfl
     replace S:=S.drop1
     refine dn_v (S.grow (j:=0) (m:=1) (new:=dZ [v]) rfl Tryz.t33.1 XL (by decide) Tryz.t33.2.2.2.2.2 bE rfl (by decide) rfl (by rw [oH,oH];have:=dj.len;simp;omega)) ?_
     clear S bE;rintro h A S
     simp only [LC,<-nats_app]at S
     have be:Fl A:=by
      rcases(S.gown _ m0).1 with⟨e,_⟩|⟨_,_,e,_⟩
      . rw [show A=_ from e];exact bj
      . rw [show A=_ from e];exact bj
     simp only [BS,LB,cls,Nat.reduceLT,Nat.reduceEqDiff,Nat.reduceAdd,Nat.reducePow,Nat.reduceDiv,Nat.reduceMod,Nat.reduceLeDiff,F8]
     refine dw (az S (i:=2) rfl Tryz.t33.2.2.1 be (Xd (lbt rfl)) ono) ?_
     clear S;rintro h ⟨S,_⟩
     simp only [LC]at S
     simp only [BS,LB,Nat.reduceLT,Nat.reduceEqDiff,Nat.reduceAdd,r0,r2,r10]
     have pv:vO=.slice none 0 0\/ ∃c n,vO=.slice (some ⟨c,0,some 1⟩) n n/\c≠I:=by
      rcases(Y.gown _ m0).1 with⟨e,_⟩|⟨c,n,e,_⟩
      . exact .inl e
      . refine .inr ⟨c,n,e,fun h=>?_⟩
        exact(Y.gblk (c:=c) m0 (by rw [show vO=_ from e];rfl)).2 (by subst h;exact List.mem_map_of_mem (f:=Prod.fst) m1)
     refine⟨?_,?_⟩
     . clear ih
       rcases pv with rfl|⟨cO,nO,rfl,bH⟩
       . simp only [bz,bG,aW,bM,a8,ne_eq,not_false_eq_true,bS,cD,bD,bw,ca,c9,aO,Nat.reduceLT,Nat.reduceEqDiff,reduceIte,Xk,r9,ae,yl,noteSl,pair_x,entry_nl,qg]
       . simp only [bz,bG,aW,bM,a8,ne_eq,not_false_eq_true,bS,cD,bD,bw,ca,c9,aO,Nat.reduceLT,Nat.reduceEqDiff,reduceIte,Xk,r9,ae,yl,noteSl,dW bH,dW bH.symm]
     have kO: ∀c∈keys ((bk,Ob.row [.int .i64 (n:Nat)] 1)::(I,.row [ptrTo C] 1)::(C,.row [ptrTo bP,.slice (some ⟨bd,0,none⟩) l.nodes l.nodes,.slice (some ⟨ba,0,none⟩) l.nodes l.nodes,vO,.map (some G)] 1)::(G,.map es c)::(ba,.row (ints aL) 1)::(bd,.row (dZ ((Xe l.nodes).map D)) 1)::(W,.row [.slice none 0 0,.slice none 0 0,.slice none 0 0] 1)::cV dbs) [(vO,1,dZ O)],c<hS.n:=fun c t=>Y.key_lt t
     have kS:=fun {c} t=>S.key_lt (b:=c) t
     have c7:=(Y.rebase S).gr.n
     refine step_ret (hN _ nb S.ok (hn.gr (Y.rebase S).gr) v bf) ?_
     rintro vl h ⟨g,sl,bL⟩
     have kn:=S.fr.n
     have gn:=g.n
     replace S:=S.call g;clear g
     simp only [BS,LB,Nat.reduceLT,Nat.reduceEqDiff,r3]
     have a0:=S.fr.n
     have dc:=fun {c} t=>sl.lt S.ok (b:=c) t
     refine step_ret (arcs_ok' S.ok ct sl.fl gY) ?_;intro v h ⟨g,b1,b2,b3,e,q1,q2,q3,y1,y2,y3⟩;replace S:=S.call g;replace sl:=sl.gr g;clear g
     subst e
     simp only [BS]
     have hH:=H.mo S.fr (fun c t w=>(Z c t).2 w)
     have bX:=H.lt Y.ok
     refine fT S (g:=251) (a:=#[]) (b:=#[ptrTo b1,ptrTo b2,ptrTo b3]) (by simp [ca,aa,ae]) rfl rfl ?_
     intro h2 db lb S' dd de g2
     have R1:=Y.rebase S'
     obtain⟨X,hX,R1⟩: ∃X:ez,X=_/\St NoM h0 h2 ((lb,.loop X)::(db,.dfr)::(bk,Ob.row [.int .i64 (n:Nat)] 1)::(I,.row [ptrTo C] 1)::(C,.row [ptrTo bP,.slice (some ⟨bd,0,none⟩) l.nodes l.nodes,.slice (some ⟨ba,0,none⟩) l.nodes l.nodes,A,.map (some G)] 1)::(G,.map R c')::(ba,.row (ints aL) 1)::(bd,.row (dZ ((Xe l.nodes).map fun u=>if u=v then n else D u)) 1)::(W,.row [.slice none 0 0,.slice none 0 0,.slice none 0 0] 1)::cV dbs) [(A,1,dZ (O++[v]))]:=⟨_,rfl,R1⟩
     have bY:ClF (O++[v]) (dJ f (v:Int) (some (.int .i64 1))):=fun u=>by
      unfold dJ
      by_cases e:u=v
      . subst e;simp
      . have e': ¬((u:Int)=(v:Int)):=by omega
        rw [if_neg e',CF u]
        simp [e]
     have hJ :Yld zM lb (fun k h' F'=> ∃K' Fh E,St NoM h0 h' ((lb,.loop X)::(db,.dfr)::(bk,Ob.row [.int .i64 (n:Nat)] 1)::(I,.row [ptrTo C] 1)::(C,.row [ptrTo bP,.slice (some ⟨bd,0,none⟩) l.nodes l.nodes,.slice (some ⟨ba,0,none⟩) l.nodes l.nodes,A,.map (some G)] 1)::(G,.map R c')::(ba,.row (ints E) 1)::(bd,.row (dZ ((Xe l.nodes).map fun u=>if u=v then n else D u)) 1)::(W,.row [.slice none 0 0,.slice none 0 0,.slice none 0 0] 1)::cV dbs) [(A,1,dZ (O++[v]))]/\
      cN h' Fh (ptrTo bP) l.nodes K'/\(∀c∈Fh,h0.n<=c/\c∉keys ((lb,.loop X)::(db,.dfr)::(bk,Ob.row [.int .i64 (n:Nat)] 1)::(I,.row [ptrTo C] 1)::(C,.row [ptrTo bP,.slice (some ⟨bd,0,none⟩) l.nodes l.nodes,.slice (some ⟨ba,0,none⟩) l.nodes l.nodes,A,.map (some G)] 1)::(G,.map R c')::(ba,.row (ints E) 1)::(bd,.row (dZ ((Xe l.nodes).map fun u=>if u=v then n else D u)) 1)::(W,.row [.slice none 0 0,.slice none 0 0,.slice none 0 0] 1)::cV dbs) [(A,1,dZ (O++[v]))])/\
      E.length=l.nodes/\Dj (seen l.arcs fs ft) s l.nodes (O++[v]) (fun u=>if u=v then n else D u) K' (fun a=> ∃id∈(outs l.arcs fs l.arcs.length v).drop k,(seen l.arcs fs ft).getD id default=a)/\
      F'=keys ((lb,.loop X)::(db,.dfr)::(bk,Ob.row [.int .i64 (n:Nat)] 1)::(I,.row [ptrTo C] 1)::(C,.row [ptrTo bP,.slice (some ⟨bd,0,none⟩) l.nodes l.nodes,.slice (some ⟨ba,0,none⟩) l.nodes l.nodes,A,.map (some G)] 1)::(G,.map R c')::(ba,.row (ints E) 1)::(bd,.row (dZ ((Xe l.nodes).map fun u=>if u=v then n else D u)) 1)::(W,.row [.slice none 0 0,.slice none 0 0,.slice none 0 0] 1)::cV dbs) [(A,1,dZ (O++[v]))]++Fh) (fun _ _=>False) (nU l.arcs ft (outs l.arcs fs l.arcs.length v)):=by
      clear ih S' R1 y1 y2 y3 hH S g2 H Z sl
      refine⟨?_,?_,fun _ _ h=>h.elim,?_⟩
      . rintro k h F' ⟨K',Fh,E,S,H,Z,_,_,rfl⟩
        exact⟨S.ok,fun b hb=>(List.mem_append.1 hb).elim (fun hb=>S.key_lt hb) (fun hb=>H.lt S.ok b hb)⟩
      . rintro k h F' h' ⟨K',Fh,E,S,H,q⟩ g
        exact⟨K',Fh,E,S.call g,H.gr g,q⟩
      . rintro k x h F' hx ⟨K',Fh,E,S,H,Z,bh,U,rfl⟩
        have bi:k<(outs l.arcs fs l.arcs.length v).length:=by
         have:=(List.getElem?_eq_some_iff.1 hx).1
         simpa [nU]using this
        unfold nU at hx
        rw [Xz,Xc bi]at hx
        cases hx
        have w:=iQ.1 (Xp bi)
        rw [XO bi]at U
        generalize(outs l.arcs fs l.arcs.length v)[k]=id at w U
        obtain⟨ad,bl⟩:=w
        subst hX
        refine fS (S.get m0) (by rw [Tryz.e134];rfl) rfl ?_
        have S1:=S
        replace S:=S.base
        simp only [BS,LB,Nat.reduceLT,Nat.reduceEqDiff,F8]
        refine ag ax S ?_;clear S;intro h b0 S cf
        simp only [BS,LB,Nat.reduceLT,Nat.reduceEqDiff,Xj,cP]
        refine ay (S.store (i:=0) rfl ?_ ?_ rfl rfl ?_ ono) ?_
        . exact(by exact Tryz.t99.2.1)
        . exact(by intro x e;cases e)
        . exact lbt rfl
        clear S;rintro h ⟨S,mo⟩;clear mo;simp only [LC,ah,lay,Xh,Xi,Nat.reduceAdd]at S
        simp only [BS]
        refine eX S (i:=1) rfl rfl rfl rfl rfl ?_
        clear S;intro h S
        simp only [LC]at S
        have af:l.arcs.getD id default∈l.arcs:=by rw [Xa,Xc ad];exact Xp ad
        have dm:=al.arcs _ af
        have dn:O.length*dh<=12*dh:=XH _ (zO dj.len n2)
        have cX:=om
        have wn:an .i64 ((n:Int)+((l.arcs.getD id default).w:Int))=((n+(l.arcs.getD id default).w:Nat):Int):=by rw [wrap64]<;>omega
        simp only [BS,LB,Nat.reduceLT,Nat.reduceEqDiff,F8,r9,r11,wn,S.ld (b:=I) (o:=0) m4 rfl,S.ld (b:=b0) (o:=1) m0 rfl,S.ld (b:=b0) (o:=2) m0 rfl,S.ld (b:=bk) (o:=0) m3 rfl]
        have hH:=H.mo S.fr (fun c t w=>(Z c t).2 w)
        have b4:=H.lt S1.ok
        have d3:C≠ba:=fun e=>by
         have ap:=S1.apart
         subst e
         simp only [keys,XX,XR,List.nodup_cons,XW]at ap
         exact ap.2.2.2.2.1 (.inr (.inl trivial))
        replace S:=S.mono (M':=fun c=>c∈keys _ _\/c∈Fh) (fun _ h=>.inl h)
        refine step_ret (reach_ok S.ok (arc:=id) (far:=n+(l.arcs.getD id default).w) (S.row m5) hH (by omega) (S.own _ m6).2 bB bY (S.row m7) bh (bm _ af) (fun h=>(Z ba h).2 (by simp [keys])) (fun h=>(Z C h).2 (by simp [keys])) d3) ?_
        rintro r h ⟨f1,F2,ch,H2,ai,cj,ck,ds⟩
        have kq:=fun {c} t=>S.key_lt (b:=c) t
        have qn:=S.fr.n
        have S2:=S.callF (i:=7) (Fh:=Fh) rfl f1 (fun c t=>⟨.inl (.inr t),fun w=>by
         rcases List.mem_cons.1 w with e|w
         . have:=b4 c t;omega
         . exact(Z c t).2 w⟩) (o':=.row _ 1) cj
        simp only [List.set_cons_zero,List.set_cons_succ]at S2
        clear S
        simp only [BS]
        have S:=S2.base
        refine dE S (i:=1) rfl ?_
        clear S;intro h S
        simp only [LC]at S
        have H3:=H2.mo S.fr (fun c t w=>by
         rcases ai c t with Q|Q
         . rcases List.mem_cons.1 w with e|w
           . have:=b4 c Q;omega
           . exact(Z c Q).2 w
         . have:=kq w;omega)
        have S3:=S2.rebase S
        refine .inl ⟨rfl,_,⟨_,F2,ch,S1.rebaseF (fun c t=>.inl (Z c t).1) S3.drop1,H3,fun c t=>?_,ck,?_,rfl⟩,S3.fr.mono (fun c t=>List.mem_append.2 t),fun c t=>?_⟩
        . rcases ai c t with Q|Q
          . exact Z c Q
          . refine⟨zO S1.fr.n (zO qn Q),fun w=>?_⟩
            have:=kq (Xg _ w)
            omega
        . obtain⟨e1,e2⟩:=seen_at (fs:=fs) (ft:=ft) ad
          have:=U.relaxed (ex':=fun a=> ∃cl∈(outs l.arcs fs l.arcs.length v).drop (k+1),(seen l.arcs fs ft).getD cl default=a) e2 (by rw [e1];show fs _∈_;rw [bl];simp) (by rw [e1];exact bm _ af) (by rw [e1];simp only [bl,if_true];rw [List.length_append,XV,Nat.succ_mul];omega) (fun b hb hx=>by
           by_cases eb:b=(seen l.arcs fs ft).getD id default
           . exact .inr eb
           . left
             rintro⟨i,hi,rfl⟩
             rcases List.mem_cons.1 hi with e|hi
             . subst e;exact eb rfl
             . exact hx ⟨i,hi,rfl⟩)
          simp only [e1,bl,if_true]at this
          exact this
        . rcases List.mem_append.1 t with t|t
          . exact .inl (Xo _ t)
          . rcases ai c t with Q|Q
            . exact .inl (Xt _ Q)
            . exact .inr (zO qn Q)
     have ak:=(Y.rebase S).gr
     have cY:=kD l.arcs fs l.arcs.length v
     have dt:=al.many
     refine eB (iter_useN (arcs_it (hq:=h0) ok S.ok ak.keep ak.n hn sl (fun id ad=>(iQ.1 ad).1) (by omega) hE y1 y2 y3) (fun _ _ h=>h) hJ (h:=h2) (F:=keys ((lb,.loop X)::(db,.dfr)::(bk,Ob.row [.int .i64 (n:Nat)] 1)::(I,.row [ptrTo C] 1)::(C,.row [ptrTo bP,.slice (some ⟨bd,0,none⟩) l.nodes l.nodes,.slice (some ⟨ba,0,none⟩) l.nodes l.nodes,A,.map (some G)] 1)::(G,.map R c')::(ba,.row (ints aL) 1)::(bd,.row (dZ ((Xe l.nodes).map fun u=>if u=v then n else D u)) 1)::(W,.row [.slice none 0 0,.slice none 0 0,.slice none 0 0] 1)::cV dbs) [(A,1,dZ (O++[v]))]++F) g2.fr (fun b hb hlt=>?_)
      ⟨cL K v none,F,aL,R1,hH.gr g2,fun c t=>⟨(Z c t).1,fun w=>?_⟩,lA,cb.exm (fun a ha hs=>?_),rfl⟩) fun o rc h' y=>iI y ?_
     . rcases List.mem_append.1 hb with V|V
       . have k2:=(R1.key_own V).elim (fun h=>h) (fun h=>h.elim)
         rcases List.mem_cons.1 V with e|V
         . simp only []at e;omega
         . rcases List.mem_cons.1 V with e|V
           . simp only []at e;omega
           . have k1:=kS V
             rintro(h|h|h|h|h)
             . omega
             . omega
             . omega
             . have:=bL b h;omega
             . omega
       . have k1:=bX b V
         have k2:=(Z b V).1
         rintro(h|h|h|h|h)
         . omega
         . omega
         . omega
         . have:=bL b h;omega
         . omega
     . have k1:=bX c t
       have dv:=S.fr.n
       rcases List.mem_cons.1 w with e|w
       . simp only []at e;omega
       . rcases List.mem_cons.1 w with e|w
         . simp only []at e;omega
         . rcases S.key_own w with Q|Q
           . omega
           . exact(Z c t).2 Q
     . obtain⟨i,hi,e⟩:=seen_mem ha
       refine⟨i,?_,e⟩
       rw [Xq]
       refine iQ.2 ⟨hi,?_⟩
       have:=(seen_at (fs:=fs) (ft:=ft) hi).1
       rw [e]at this
       rw [this]at hs
       exact hs
     . rintro Fx ⟨K',a3,E,T,H',J,bh,U,rfl⟩
       clear hJ R1 y1 y2 y3 hH S' S
       rw [show(nU l.arcs ft (outs l.arcs fs l.arcs.length v)).length=(outs l.arcs fs l.arcs.length v).length by simp [nU],List.drop_length]at U
       replace U:=U.exm (ex':=fun _=>False) (fun a _ h=>by obtain⟨i,hi,_⟩:=h;cases hi)
       subst hX
       refine⟨_,T.get m0,XT,?_⟩
       have ai: ∀c∈a3,c≠lb:=fun c t e=>(J c t).2 (by rw [e];exact m0)
       have H2:=H'.mo ((Mo.refl (M:=(· =lb)) T.ok).put (.inr rfl) .dead) ai
       replace T:=T.dead
       replace J:=fun c t=>And.intro (J c t).1 (fun w=>(J c t).2 (Xg _ w))
       have S:=T.base
       show Run _ _ _ _ _ _ _ _
       simp only [BS,Nat.reduceLT,Nat.reduceEqDiff,if_false,F8,r11,S.ld (b:=bk) (o:=0) m1 rfl]
       refine ag ax S ?_;clear S;intro h a4 S cn
       simp only [BS,LB,Nat.reduceLT,Nat.reduceEqDiff,r11]
       refine ay (az S (i:=0) rfl ?_ ?_ ?_ ono) ?_
       . exact(by simp only [F8])
       . exact(by exact bU)
       . exact Xd (lbt rfl)
       clear S;rintro h ⟨S,mo⟩;clear mo;simp only [LC,ah,lay,Xh,Xi,Nat.reduceAdd]at S
       simp only [BS,LB,Nat.reduceLT,Nat.reduceEqDiff,F8,r9,S.ld (b:=I) (o:=0) m3 rfl,S.ld (b:=C) (o:=0) m4 rfl]
       have H3:=H2.mo S.fr (fun c t w=>(J c t).2 w)
       have cp:=H2.lt T.ok
       have a5: ∀c∈a3,h0.n<=c/\c∉keys ([(a4,Ob.row [.int .i64 (n:Nat)] 1),(I,.row [ptrTo C] 1),(C,.row [ptrTo bP,.slice (some ⟨bd,0,none⟩) l.nodes l.nodes,.slice (some ⟨ba,0,none⟩) l.nodes l.nodes,A,.map (some G)] 1),(G,.map R c'),(ba,.row (ints E) 1),(bd,.row (dZ ((Xe l.nodes).map fun u=>if u=v then n else D u)) 1),(W,.row [.slice none 0 0,.slice none 0 0,.slice none 0 0] 1)]++cV (db::dbs)) [(A,1,dZ (O++[v]))]:=fun c t=>by
        refine⟨(J c t).1,fun w=>?_⟩
        have Q:=(J c t).2
        have h2:=cp c t
        simp [keys,cV]at w
        rcases w with h|h|h|h|h|h|h|h|h|h
        . omega
        all_goals exact Q (by simp [keys,cV,h])
       replace S:=(T.rebase S).sub (L':=(a4,Ob.row [.int .i64 (n:Nat)] 1)::(db,.dfr)::(I,.row [ptrTo C] 1)::(C,.row [ptrTo bP,.slice (some ⟨bd,0,none⟩) l.nodes l.nodes,.slice (some ⟨ba,0,none⟩) l.nodes l.nodes,A,.map (some G)] 1)::(G,.map R c')::(ba,.row (ints E) 1)::(bd,.row (dZ ((Xe l.nodes).map fun u=>if u=v then n else D u)) 1)::(W,.row [.slice none 0 0,.slice none 0 0,.slice none 0 0] 1)::cV dbs) (G':=[(A,1,dZ (O++[v]))]) (.cons_cons _ (.cons_cons _ (List.sublist_cons_self _ _))) (List.Sublist.refl _)
       replace S:=S.permL (L':=[(a4,Ob.row [.int .i64 (n:Nat)] 1),(I,.row [ptrTo C] 1),(C,.row [ptrTo bP,.slice (some ⟨bd,0,none⟩) l.nodes l.nodes,.slice (some ⟨ba,0,none⟩) l.nodes l.nodes,A,.map (some G)] 1),(G,.map R c'),(ba,.row (ints E) 1),(bd,.row (dZ ((Xe l.nodes).map fun u=>if u=v then n else D u)) 1),(W,.row [.slice none 0 0,.slice none 0 0,.slice none 0 0] 1)]++cV (db::dbs)) (.cons _ (by
        show(List.append [_,_,_,_,_,_] ((db,Ob.dfr)::cV dbs)).Perm _
        exact List.perm_middle))
       clear T H' H2 J
       have T:=S.baseF a3
       refine step_ret (s8 S.ok H3 (by omega)) ?_
       rintro rr h3 ⟨v3,k3,cr,rfl,f3,H4,b5,b6⟩
       replace S:=S.rebaseF (fun c t=>.inl (a5 c t).1) (T.stepF f3 (fun c t=>⟨.inl (.inr t),(a5 c t).2⟩))
       simp only [BS,LB,Nat.reduceLT,Nat.reduceEqDiff,r11]
       clear T
       have T:=S
       replace S:=S.base
       simp only [LC]at S
       refine ay (az S (i:=0) rfl ?_ ?_ ?_ ono) ?_
       . exact(by simp only [F8])
       . exact(by exact bU)
       . exact Xd (lbt rfl)
       clear S;rintro h ⟨S,mo⟩;clear mo;simp only [LC,ah,lay,Xh,Xi,Nat.reduceAdd]at S
       simp only [BS,LB,Nat.reduceLT,Nat.reduceEqDiff]
       have H5:=H4.mo S.fr (fun c t w=>(a5 c t).2 w)
       replace S:=T.rebase S
       subst hd
       have dx:(O++[v]).length=O.length+1:=by simp
       have c0:=U.len
       refine ih (O++[v]) _ _ _ (by omega) ⟨db::dbs,_,K',a3,R,c',_,E,A,a4,v3,k3,cr,rfl,S,a5,bh,bB,bY,U,H5,b5,b6,?_⟩
       refine⟨by simp [aa,r0,ae],by simp [aa,r2,ae],by simp [aa,r3,ae],by simp [aa,r8,ae],by simp [aa,r9,ae],by simp [aa],by simp [aa,ae],by simp [aa]⟩
 . have e1:dZ ((Xe l.nodes).map fun _=>FAR)=Xb l.nodes (.int .i64 72057594037927936):=by
    rw [kH,List.map_const',XA,List.map_replicate];rfl
   have e2:ints (Xb l.nodes (-1))=Xb l.nodes (.int .i64 (-1)):=by
    rw [ints_map,List.map_replicate]
   have S3:=S1.rebaseF (fun c t=>.inl (P c t).1) (S2.rebase S)
   have nn:=S2.fr.n
   refine⟨[],fun _=>FAR,cL (fun _=>none) s (some 0),F1,[],0,fun _=>none,Xb l.nodes (-1),.slice none 0 0,bk,v,k,b,rfl,?_,?_,by simp,qE,fun u=>by simp,dj,H3,a1,a2,?_⟩
   . rw [e1,e2];exact S3
   . rw [e1,e2]
     intro c t
     refine⟨(P c t).1,fun w=>?_⟩
     have Q:=(P c t).2
     have h2:=bv c t
     simp [keys,dU,cV]at w Q
     omega
   . refine⟨by simp [aa,ae,aP,bW],by simp [aa,ae,aP,bW],by simp [aa,ae,aP,bW],by simp [aa,ae,aP,bW],by simp [aa,ae,aP,bW],by simp [aa,ae,aP,bW],by simp [aa,ae,aP,bW],by simp [aa,ae,aP,bW]⟩
def Tryz.F1b:=aj t1<|aj t2<|aj t3<|Z2
def Tryz.F1c:=aj t1<|aj t2<|aj t3<|Z2
def Tryz.F1d:=aj t1<|aj t2<|aj t3<|aj t24<|aj Z0<|aj t32<|aj t33<|aj t58<|aj t189<|aj Z1<|aj t192<|Z16
def Tryz.F1e:=aj t1<|aj t2<|aj t3<|aj t24<|aj Z0<|aj t32<|aj t33<|aj t58<|aj t189<|aj Z1<|aj t192<|Z16
theorem fromKey:KeyF zM 136 Arc.t:=by
 intro f a c
 have S:=Si c
 refine ac (n:=5) (rs:=[.tmp 2]) rfl Tryz.e136 rfl rfl rfl (lbt rfl) ?_
 simp only [BS,Nat.reduceLT,cP]
 refine ag (bg (by intro x e;cases e)) S ?_;clear S;intro h b S d;simp only [ah]at S
 simp only [BS,LB,ab,Nat.reduceLT,Nat.reduceEqDiff,F1b,S.ld (b:=b) (o:=1) m0 rfl]
 exact S.gr
theorem toKey:KeyF zM 135 Arc.s:=by
 intro f a c
 have S:=Si c
 refine ac (n:=5) (rs:=[.tmp 2]) rfl Tryz.e135 rfl rfl rfl (lbt rfl) ?_
 simp only [BS,Nat.reduceLT,cP]
 refine ag (bg (by intro x e;cases e)) S ?_;clear S;intro h b S d;simp only [ah]at S
 simp only [BS,LB,ab,Nat.reduceLT,Nat.reduceEqDiff,F1c,S.ld (b:=b) (o:=0) m0 rfl]
 exact S.gr
theorem fromNext{b:Gra}(a:Good b){c:Value}:NextF zM 115 b c Arc.s:=fun h g d e v f=>wC d e (by have:=a.many;omega) f
theorem toNext{b:Gra}(a:Good b){c:Value}:NextF zM 117 b c Arc.t:=fun h g d e v f=>zg d e (by have:=a.many;omega) f
theorem xV{h0:Hp}(C:h0.t.Sized h0.n){j:Gra}(f:Good j){p:Value}{E:Nat}(F:aV h0 E p j){s:Nat}(G:s<j.nodes):
 Ret zM 59 [p,.int .i64 s] h0 fun r q=>Gr h0 q/\uW q h0.n r (seen j.arcs Arc.s Arc.t) s j.nodes:=by
 have S:=Si C
 refine ac (n:=10) (rs:=[.cell 4 222]) rfl Tryz.e59 rfl rfl rfl (lbt rfl) ?_
 simp only [BS,F1d]
 refine ag ax S ?_;clear S;intro h k S t
 simp only [BS,LB,Nat.reduceLT,Nat.reduceEqDiff]
 have H:=S.fr.n
 have I:=(S.row (b:=k) m0).lt S.ok
 refine step_ret (yC S.ok f (F.gr S.gr) G (fromNext f) fromKey (fun a J=>(f.arcs a J).2.1)) ?_;intro v h ⟨g,T⟩;replace S:=S.call g;clear g
 obtain⟨u,w,y,D,K,O,rfl,z,A,B,t4,t5,t6,t7,t8⟩:=T
 have L:=z.fl
 have M:=A.fl
 have N:=B.fl
 have l: ∀c,ar u c\/ar w c\/ar y c->c≠k:=fun c d e=>by have:=t6 c d;omega
 simp only [BS,LB,Nat.reduceLT,Nat.reduceEqDiff]
 refine ay (S.store (i:=0) rfl Tryz.t222.2.1 (by intro x e;cases e) rfl (by simp only [ah,XB,XD,L.2.1,M.2.1,N.2.1,Xk]) (lbt rfl) ono) ?_
 clear S;rintro h ⟨S,m⟩
 simp only [LC,ah,lay,Xh,Xi,Nat.reduceAdd]at S
 simp only [BS,ab]
 refine(dg (by decide) (by simp only [aO,ae,Nat.reduceEqDiff,reduceIte];exact cQ Tryz.t222.1 Tryz.t222.2.1 (S.lds (b:=k) (o:=0) (n:=3) m0 (lbt rfl)))).2 (dV.2 ?_)
 exact⟨S.gr,u,w,y,D,K,O,rfl,z.mo m (fun c d=>l c (.inl d)),A.mo m (fun c d=>l c (.inr (.inl d))),B.mo m (fun c d=>l c (.inr (.inr d))),t4,t5,fun c d=>zO H (t6 c d),t7,t8⟩
theorem uX{h0:Hp}(C:h0.t.Sized h0.n){j:Gra}(f:Good j){p:Value}{E:Nat}(F:aV h0 E p j){s:Nat}(G:s<j.nodes):
 Ret zM 58 [p,.int .i64 s] h0 fun r q=>Gr h0 q/\uW q h0.n r (seen j.arcs Arc.t Arc.s) s j.nodes:=by
 have S:=Si C
 refine ac (n:=10) (rs:=[.cell 4 222]) rfl Tryz.e58 rfl rfl rfl (lbt rfl) ?_
 simp only [BS,F1e]
 refine ag ax S ?_;clear S;intro h k S t
 simp only [BS,LB,Nat.reduceLT,Nat.reduceEqDiff]
 have H:=S.fr.n
 have I:=(S.row (b:=k) m0).lt S.ok
 refine step_ret (yC S.ok f (F.gr S.gr) G (toNext f) toKey (fun a J=>(f.arcs a J).1)) ?_;intro v h ⟨g,T⟩;replace S:=S.call g;clear g
 obtain⟨u,w,y,D,K,O,rfl,z,A,B,t4,t5,t6,t7,t8⟩:=T
 have L:=z.fl
 have M:=A.fl
 have N:=B.fl
 have l: ∀c,ar u c\/ar w c\/ar y c->c≠k:=fun c d e=>by have:=t6 c d;omega
 simp only [BS,LB,Nat.reduceLT,Nat.reduceEqDiff]
 refine ay (S.store (i:=0) rfl Tryz.t222.2.1 (by intro x e;cases e) rfl (by simp only [ah,XB,XD,L.2.1,M.2.1,N.2.1,Xk]) (lbt rfl) ono) ?_
 clear S;rintro h ⟨S,m⟩
 simp only [LC,ah,lay,Xh,Xi,Nat.reduceAdd]at S
 simp only [BS,ab]
 refine(dg (by decide) (by simp only [aO,ae,Nat.reduceEqDiff,reduceIte];exact cQ Tryz.t222.1 Tryz.t222.2.1 (S.lds (b:=k) (o:=0) (n:=3) m0 (lbt rfl)))).2 (dV.2 ?_)
 exact⟨S.gr,u,w,y,D,K,O,rfl,z.mo m (fun c d=>l c (.inl d)),A.mo m (fun c d=>l c (.inr (.inl d))),B.mo m (fun c d=>l c (.inr (.inr d))),t4,t5,fun c d=>zO H (t6 c d),t7,t8⟩
def Tryz.F1f:=aj t1<|t2
def wy(x:Int):Int:=min (max x 0) 72057594037927936
theorem zF{h0:Hp}(a:h0.t.Sized h0.n){b1 b2:Nat}{x:Int}(b:h0.load b1 0 1=some [.int .i64 0])(c:h0.load b2 0 1=some [.int .i64 72057594037927936]):aK zM 267 [.int .i64 x,ptrTo b1,ptrTo b2] h0 (.int .i64 (wy x)):=by
 have S:=Si a
 refine ac (n:=10) (rs:=[.tmp 4]) rfl Tryz.e267 rfl rfl rfl (lbt rfl) ?_
 simp only [BS,LB,ab,Nat.reduceLT,Nat.reduceEqDiff,F1f,b,c]
 exact⟨rfl,S.gr⟩
theorem A1{h0:Hp}(c:h0.t.Sized h0.n):Ret zM 249 [.int .i64 0,.int .i64 72057594037927936] h0 fun v h=>Gr h0 h/\ ∃b1 b2,v=.func (.func 267) #[] #[ptrTo b1,ptrTo b2]/\h.load b1 0 1=some [.int .i64 0]/\h.load b2 0 1=some [.int .i64 72057594037927936]:=by
 have S:=Si c
 refine ac (n:=6) (rs:=[.tmp 4]) rfl Tryz.e249 rfl rfl rfl (lbt rfl) ?_
 simp only [BS,Nat.reduceLT]
 refine ag (bg (by intro x e;cases e)) S ?_;clear S;intro h b1 S a;simp only [ah]at S
 simp only [BS,Nat.reduceLT,Nat.reduceEqDiff,if_false]
 refine ag (bg (by intro x e;cases e)) S ?_;clear S;intro h b2 S b;simp only [ah]at S
 simp only [BS,LB,ab,Nat.reduceLT,Nat.reduceEqDiff]
 exact⟨S.gr,b1,b2,rfl,S.ld m1 rfl,S.ld m0 rfl⟩
theorem mM{h0:Hp}(a:h0.t.Sized h0.n){x:Int}:aK zM 208 [.int .i64 x] h0 (.int .i64 (wy x)):=by
 have S:=Si a
 refine ac (n:=6) (rs:=[.tmp 2]) rfl Tryz.e208 rfl rfl rfl (lbt rfl) ?_
 simp only [BS,LB]
 refine step_ret (A1 S.ok) ?_;intro v h ⟨g,b1,b2,e,e1,e2⟩;replace S:=S.call g;clear g
 subst e
 simp only [BS,LB,Nat.reduceLT,Nat.reduceEqDiff]
 refine am (zF S.ok e1 e2) ?_;intro h g;replace S:=S.call g;clear g
 simp only [BS,LB,ab,Nat.reduceLT,Nat.reduceEqDiff]
 exact S.gr
theorem pC{h0:Hp}(a:h0.t.Sized h0.n){x:Int}:aK zM 207 [.int .i64 x] h0 (.bool (decide (wy x<72057594037927936))):=by
 have S:=Si a
 refine ac (n:=6) (rs:=[.tmp 2]) rfl Tryz.e207 rfl rfl rfl (lbt rfl) ?_
 simp only [BS,LB,Nat.reduceLT,Nat.reduceEqDiff]
 refine am (mM S.ok) ?_;intro h g;replace S:=S.call g;clear g
 simp only [BS,LB,ab,Nat.reduceLT,Nat.reduceEqDiff]
 exact S.gr
theorem wy_bd(x:Int):0<=wy x/\wy x<=72057594037927936:=by unfold wy;omega
theorem wy_id{x:Int}(h0:0<=x)(a:x<=72057594037927936):wy x=x:=by unfold wy;omega
def lowD(v t:Int):Int:=if wy t<72057594037927936 then(if wy v<72057594037927936 then wy (wy v-wy t)else 72057594037927936)else 0
theorem low_ok{h0:Hp}(i:h0.t.Sized h0.n){v t:Int}:aK zM 162 [.int .i64 v,.int .i64 t] h0 (.int .i64 (lowD v t)):=by
 have S:=Si i
 have a:=wy_bd v
 have b:=wy_bd t
 have c:wy (wy v)=wy v:=wy_id a.1 a.2
 have d:wy (wy t)=wy t:=wy_id b.1 b.2
 have w:an .i64 (wy v-wy t)=wy v-wy t:=by rw [wrap64]<;>omega
 refine ac (n:=21) (rs:=[.tmp 4]) rfl Tryz.e162 rfl rfl rfl (lbt rfl) ?_
 simp only [BS,LB,Nat.reduceLT,Nat.reduceEqDiff]
 refine am (mM S.ok) ?_;intro h g;replace S:=S.call g;clear g
 simp only [BS,LB,Nat.reduceLT,Nat.reduceEqDiff]
 refine am (mM S.ok) ?_;intro h g;replace S:=S.call g;clear g
 simp only [BS,LB,Nat.reduceLT,Nat.reduceEqDiff]
 refine am (pC S.ok) ?_;intro h g;replace S:=S.call g;clear g
 unfold lowD
 by_cases e:wy t<72057594037927936
 . simp only [BS,LB,Nat.reduceLT,Nat.reduceEqDiff,d,e]
   refine am (pC S.ok) ?_;intro h g;replace S:=S.call g;clear g
   by_cases f:wy v<72057594037927936
   . simp only [BS,LB,Nat.reduceLT,Nat.reduceEqDiff,c,f,w]
     refine am (mM S.ok) ?_;intro h g;replace S:=S.call g;clear g
     simp only [BS,LB,ab,Nat.reduceLT,Nat.reduceEqDiff]
     exact S.gr
   . simp only [BS,LB,ab,Nat.reduceLT,Nat.reduceEqDiff,c,f]
     exact S.gr
 . simp only [BS,LB,ab,Nat.reduceLT,Nat.reduceEqDiff,d,e]
   exact S.gr
theorem lift_ok{h0:Hp}(a:h0.t.Sized h0.n){v t:Int}:aK zM 164 [.int .i64 v,.int .i64 t] h0 (.int .i64 (lowD t v)):=by
 have S:=Si a
 refine ac (n:=8) (rs:=[.tmp 4]) rfl Tryz.e164 rfl rfl rfl (lbt rfl) ?_
 simp only [BS,LB,Nat.reduceLT,Nat.reduceEqDiff]
 refine am (low_ok S.ok) ?_;intro h g;replace S:=S.call g;clear g
 simp only [BS,LB,ab,Nat.reduceLT,Nat.reduceEqDiff]
 exact S.gr
end Go.Ab
end
section
namespace Go.Ab
structure YldP(E:Env)(lb:Nat)(J:Nat->Hp->List Nat->Prop)(n:Nat)(P:Nat->Hp->List Nat->List Value->Prop):Prop where
 lt: ∀i h F,J i h F->h.t.Sized h.n/\ ∀b∈F,b<h.n
 gr: ∀i h F h',J i h F->Gr h h'->J i h' F
 round: ∀i x h F,i<n->P i h F x->J i h F->j7 E lb x h fun o h'=>o=.ret (.bool true)/\ ∃F',J (i+1) h' F'/\Mo (· ∈F) h h'/\ ∀b∈F',b∈F\/h.n<=b
def IterP(E:Env)(g:FuncId)(post:List Value)(h0:Hp)(D:Nat->Prop)(n:Nat)(P:Nat->Hp->List Nat->List Value->Prop):Prop:=
 ∀a J,YldP E a J n P-> ∀h F,ItS h0 D h F->J 0 h F->fk E g (.func (.yield a) #[] #[]::post) none h fun o b c=>b=none/\ ∃u d,o=.ret u/\J n c d
theorem Ad{E:Env}{cx:Cx}{o:Oper}{l:Loc}{K:Ex->Loc->Hp->Prop}{h0 h:Hp}{D:Nat->Prop}{e i n:Nat}{J:Nat->Hp->List Nat->Prop}{P:Nat->Hp->List Nat->List Value->Prop}{x:List Value}{F:List Nat}
 (Y:YldP E e J n P) (s:ItS h0 D h F) (f:J i h F) (g:i<n) (j:P i h F x)
 (k: ∀d F',J (i+1) d F'->ItS h0 D d F'->Mo (· ∈F) h d->(∀b∈F',b∈F\/h.n<=b)->K .normal (l.put o.dst (.bool true)) d):eR E cx o l K (some (.yield e x,h)):=by
 refine uL (Y.round i x h F g j f) ?_
 rintro q d ⟨rfl,F',a,b,c⟩
 exact k d F' a (s.mo b c (Y.lt _ _ _ a).2) b c
def encV(w:Value):List Value:=[w]
theorem xS(w:Value):(encV w).length=1:=rfl
theorem flat_encV(l:List Value):l.flatMap encV=l:=by
 induction l with
 |nil=>rfl
 |cons x l a=>rw [XN,a];rfl
def gp(h:Hp)(m:Nat)(v:Value)(n:Nat)(R:Nat->List Int):Prop:=
 ∃a:List Value,av h 1 encV v a/\a.length=n/\(∀c,ar v c->m<=c)/\ ∀i w,a[i]? =some w->av h 1 (encI .i64) w (R i)/\ ∀c,ar w c->m<=c
theorem gp.mo{M:Nat->Prop}{h k:Hp}{m n:Nat}{v:Value}{R:Nat->List Int}(r:gp h m v n R)(g:Mo M h k)(l: ∀b,M b->b<m):gp k m v n R:=by
 obtain⟨o,a,b,c,d⟩:=r
 exact⟨o,a.mo g (fun x e f=>by have:=c x e;have:=l x f;omega),b,c,fun i w j=>⟨(d i w j).1.mo g (fun x e f=>by have:=(d i w j).2 x e;have:=l x f;omega),(d i w j).2⟩⟩
theorem gp.gr{h a:Hp}{m n:Nat}{v:Value}{R:Nat->List Int}(r:gp h m v n R)(g:Gr h a):gp a m v n R:=r.mo (M:=NoM) g.fr (fun _ h=>h.elim)
theorem gp.low{h:Hp}{m f n:Nat}{v:Value}{R:Nat->List Int}(r:gp h m v n R)(g:f<=m):gp h f v n R:=by
 obtain⟨k,a,b,c,d⟩:=r
 exact⟨k,a,b,fun x e=>zO g (c x e),fun i w j=>⟨(d i w j).1,fun x e=>zO g ((d i w j).2 x e)⟩⟩
theorem gp.row{h:Hp}{m n:Nat}{v:Value}{R:Nat->List Int}(r:gp h m v n R){i:Nat}(k:i<n): ∃w,(∃c o,kW (some 1) v (.int .i64 (i:Nat))=some (.pointer (some ⟨c,o,none⟩))/\h.load c o 1=some [w])/\av h 1 (encI .i64) w (R i)/\ ∀c,ar w c->m<=c:=by
 obtain⟨e,a,b,c,d⟩:=r
 obtain⟨q,o,g,j⟩:=a.ix (kd:=.i64) xS (i:=i) (by omega)
 have f:e[i]? =some e[i]:=Xc (by omega)
 exact⟨e[i],⟨q,o,g,j⟩,(d i _ f).1,(d i _ f).2⟩
theorem flat_nat(l:List Nat):l.flatMap ce=(l.map fun(x:Nat)=>(x:Int)).flatMap (encI .i64):=by
 induction l with
 |nil=>rfl
 |cons x l a=>rw [XN,XX,XN,a];rfl
theorem sl_nat{h:Hp}{v:Value}{l:List Nat}(s:av h 1 ce v l):av h 1 (encI .i64) v (l.map fun(x:Nat)=>(x:Int)):=by
 rcases s with⟨rfl,rfl⟩|⟨b,o,s,c,rfl,a,d⟩
 . exact .inl ⟨rfl,rfl⟩
 . refine .inr ⟨b,o,s,c,by rw [Xl],by rw [Xl];exact a,?_⟩
   rw [Xl,d,flat_nat]
def gT(N:Nat)(l:List Int):Prop:=l.length<=16/\ ∀i,i<l.length->0<=l.getD i 0/\l.getD i 0<N/\l.getD i 0∉l.take i
theorem gT.push{N:Nat}{l:List Int}(h:gT N l)(g:l.length<16){x:Int}(h0:0<=x)(c:x<N)(d:x∉l):gT N (l++[x]):=by
 refine⟨by simp;omega,fun i f=>?_⟩
 simp at f
 by_cases e:i=l.length
 . subst e
   have b:(l++[x]).getD l.length 0=x:=by simp [Xa]
   rw [b,List.take_left']
   exact⟨h0,c,d⟩
   rfl
 . have a:i<l.length:=by omega
   have b:(l++[x]).getD i 0=l.getD i 0:=by simp [Xa,XP a]
   rw [b,Xy (by omega)]
   exact h.2 i a
theorem xw(N:Nat):gT N []:=⟨by simp,fun i a=>by simp at a⟩
structure TabAt(h:Hp)(m:Nat)(p:Value)(N:Nat)(marks:List Int)(R Q:Nat->List Int):Prop where
 ex: ∃b vM vT vF,p=ptrTo b/\Row h b [.int .i64 N,vM,vT,vF] 1/\av h 1 (encI .i64) vM marks/\gp h m vT marks.length R/\gp h m vF marks.length Q/\m<=b/\ ∀c,ar vM c->m<=c
theorem TabAt.mo{M:Nat->Prop}{h d:Hp}{m N:Nat}{p:Value}{a:List Int}{R Q:Nat->List Int}(t:TabAt h m p N a R Q)(g:Mo M h d)(c: ∀b,M b->b<m):TabAt d m p N a R Q:=by
 obtain⟨b,i,j,k,e,l,n,q,r,s,f⟩:=t.ex
 exact⟨b,i,j,k,e,g.has (o:=.row _ 1) l (fun h=>by have:=c _ h;omega),n.mo g (fun x u v=>by have:=f x u;have:=c x v;omega),q.mo g c,r.mo g c,s,f⟩
theorem TabAt.gr{h b:Hp}{m N:Nat}{p:Value}{a:List Int}{R Q:Nat->List Int}(t:TabAt h m p N a R Q)(g:Gr h b):TabAt b m p N a R Q:=t.mo (M:=NoM) g.fr (fun _ h=>h.elim)
theorem gp.lenq{h c:Hp}{m n:Nat}{v:Value}{R:Nat->List Int}{e:TypeId}(r:gp c m v n R):lG (some (.slice e)) h v=some (.val (.int .i64 n),h):=by
 have⟨d,a,b,_⟩:=r
 rw [<-b];exact a.lenq
end Go.Ab

end
section
namespace Go.Ab
open Go.Proofs
set_option maxRecDepth 10000
def Tryz.FP:=aj t1<|aj t2<|aj t3<|aj t4<|t218
def Tryz.F0z:=aj t1<|aj t2<|aj t3<|aj t4<|aj t5<|aj t6<|aj Z3<|aj t33<|t196
def Tryz.FQ:=aj t1<|aj t2<|aj t3<|aj t4<|aj t33<|aj t196<|t218
theorem may1_ok{h0:Hp}(y:h0.t.Sized h0.n){b5 b2 b c N k:Nat}{x:Int}{p:List (Value×Value×Nat)}{f:Int->Option Value}(q:h0.load b5 0 1=some [.map (some b)])(A:h0.load b2 0 1=some [.int .i64 N])(s:h0.get b=some (.map p c))(t:dy p c f)(hf:(f x).getD (.int .i64 0)=.int .i64 k)(F:k<=1)(B:b5≠b)(C:b2≠b):
 Ret zM 130 [.int .i64 x,ptrTo b5,ptrTo b2] h0 fun r u=>Mo (· =b) h0 u/\r=.bool (decide (x<0\/(N:Int)<=x\/k=1))/\ ∃es' c',u.get b=some (.map es' c')/\dy es' c' (dJ f x (some (.int .i64 (k+1:Nat)))):=by
 have S:=St.init1 y (o:=.map p c) s
 have v:=pZ (x:=x) Tryz.t218.1 Tryz.t3.1 (z:=.int .i64 0) (by kernel_rfl) s t
 rw [hf]at v
 have w:an .i64 ((k:Int)+1)=((k+1:Nat):Int):=by rw [wrap64]<;>omega
 refine ac (n:=22) (rs:=[.tmp 4]) rfl Tryz.e130 rfl rfl rfl (lbt rfl) ?_
 simp only [BS,LB,Nat.reduceLT,Nat.reduceEqDiff,FP,q,v,w]
 refine ay (S.mputI (i:=0) rfl Tryz.t218.1 Tryz.t3.1 t _) ?_
 clear S;rintro h ⟨_,es',c',a,S⟩
 simp only [LC]at S
 have j:=S.old q B
 have d:=S.old A C
 have l:h.get b=some (.map es' c'):=(S.own _ m0).2
 have e:=pZ (x:=x) Tryz.t218.1 Tryz.t3.1 (z:=.int .i64 0) (by kernel_rfl) l a
 rw [show dJ f x (some (.int .i64 ((k+1:Nat):Int))) x=some (.int .i64 ((k+1:Nat):Int)) by unfold dJ;rw [if_pos rfl],XG]at e
 by_cases g:x<0
 . simp only [BS,LB,ab,Nat.reduceLT,Nat.reduceEqDiff,g]
   exact⟨S.fr,by simp [g],es',c',l,a⟩
 . by_cases m:(N:Int)<=x
   . simp only [BS,LB,ab,Nat.reduceLT,Nat.reduceEqDiff,FP,d,g,m]
     exact⟨S.fr,by simp [m],es',c',l,a⟩
   . by_cases D:k=1
     . subst D
       simp only [BS,LB,ab,Nat.reduceLT,Nat.reduceEqDiff,Nat.reduceAdd,Int.reduceLT,Xj,FP,j,d,g,m,e]
       exact⟨S.fr,by simp,es',c',l,a⟩
     . have E:k=0:=by omega
       subst E
       simp only [BS,LB,ab,Nat.reduceLT,Nat.reduceEqDiff,Int.reduceLT,Xj,FP,j,d,g,m,e]
       exact⟨S.fr,by simp [g,m],es',c',l,a⟩
def OkAt(N:Nat)(l:List Int)(i:Nat):Prop:=0<=l.getD i 0/\l.getD i 0<N/\l.getD i 0∉l.take i
theorem mayIdx_ok {h0:Hp} (U:h0.t.Sized h0.n) {b5 b2 a N:Nat} {v:Value} {l:List Int} (y:av h0 1 (encI .i64) v l) (hl:l.length<=1000) (V:h0.load b5 0 1=some [.map (some a)]) (A:h0.load b2 0 1=some [.int .i64 N]) (J:h0.get a=some (.map [] 0)) (K:b5≠a) (L:b2≠a):
 Ret zM 209 [v,.func (.func 130) #[] #[ptrTo b5,ptrTo b2]] h0 fun r M=>Mo (· =a) h0 M/\ ∃z,r=.int .i64 z/\(0<=z↔ ¬ ∀i,i<l.length->OkAt N l i):=by
 have B: ∀c,ar v c-> ¬c=a:=by
  rintro c O rfl
  rcases y with⟨rfl,_⟩|⟨b,o,s,P,rfl,_,W⟩
  . exact O.elim
  . have:b=c:=O
    subst this
    simp [Hp.load,J]at W
 refine ac (n:=19) (rs:=[.tmp 4]) rfl Tryz.e209 rfl rfl rfl (lbt rfl) ?_
 simp only [BS,LB,Nat.reduceLT,Nat.reduceEqDiff,F0z,y.lenq]
 refine aQ (fun(i:Nat) g h=>i<=l.length/\Mo (· =a) h0 h/\(∃C c f,h.get a=some (.map C c)/\dy C c f/\ ∀x,f x=if x∈l.take i then some (.int .i64 1)else none)/\(∀j,j<i->OkAt N l j)/\g 0=v/\g 1=.func (.func 130) #[] #[ptrTo b5,ptrTo b2]/\g 7=.int .i64 l.length/\g 8=.int .i64 i) (fun i=>l.length-i) ?_ 0 _ _ ?_
 . intro i X g h ⟨hi,mo,⟨C,c,f,hg,MI,hf⟩,hok,r0,r1,r7,r8⟩
   by_cases hlt:i<l.length
   . obtain ⟨q,o,m,D⟩:=(y.mo mo B).ix (kd:=.i64) (bK .i64) hlt
     have w:an .i64 ((i:Int)+1)=((i+1:Nat):Int):=by rw [wrap64]<;>omega
     have Q: ∀{b:Nat} {x},b≠a->h0.load b 0 1=some x->h.load b 0 1=some x:=fun E e=>by
      have:=mo.get _ (bJ mo.ok0 e) E
      unfold Hp.load at e⊢
      rw [this];exact e
     have F:l.getD i 0=l[i]:=by simp [Xa,hlt]
     simp only [BS,LB,Nat.reduceLT,Nat.reduceEqDiff,F0z,r0,r1,r7,r8,aA,hlt,m,D,encI]
     refine step_ret (may1_ok mo.ok (x:=l[i]) (N:=N) (k:=if l[i]∈l.take i then 1 else 0) (Q K V) (Q L A) hg MI (by rw [hf];split<;>rfl) (by split<;>omega) K L) ?_
     rintro r M ⟨Y,rfl,G,P,H,I⟩
     have p:=mo.trans Y (fun _ h=>.inl h)
     by_cases d:OkAt N l i
     . have e:decide (l[i]<0\/(N:Int)<=l[i]\/(if l[i]∈l.take i then 1 else 0)=1)=false:=by
        obtain⟨Z,w2,R⟩:=d
        rw [F]at Z w2 R
        rw [if_neg R]
        simp;omega
       rw [e]
       have t:l[i]∉l.take i:=by have:=d.2.2;rwa [F]at this
       simp only [BS,LB,Nat.reduceLT,Nat.reduceEqDiff,r8,w]
       refine X (i+1) _ _ (by omega) ⟨by omega,p,⟨G,P,_,H,I,fun x=>?_⟩,fun j S=>?_,by simp [aa,r0],by simp [aa,r1,ae],by simp [aa,r7],by simp [aa]⟩
       . have T:=XF hlt
         rw [if_neg t]
         unfold dJ
         by_cases u:x=l[i]
         . rw [if_pos u,if_pos (by rw [T];exact Xt _ (List.mem_singleton.2 u))];rfl
         . rw [if_neg u,hf]
           have:x∈l.take (i+1)↔x∈l.take i:=by rw [T,List.mem_append,List.mem_singleton];exact⟨fun h=>h.resolve_right u,.inl⟩
           simp only [this]
       . by_cases A:j=i
         . subst A;exact d
         . exact hok j (by omega)
     . have e:decide (l[i]<0\/(N:Int)<=l[i]\/(if l[i]∈l.take i then 1 else 0)=1)=true:=by
        unfold OkAt at d
        rw [F]at d
        simp only [decide_eq_true_eq]
        by_cases t:l[i]∈l.take i
        . rw [if_pos t];exact .inr (.inr rfl)
        . by_cases a1:l[i]<0
          . exact .inl a1
          . by_cases a2:(N:Int)<=l[i]
            . exact .inr (.inl a2)
            . exact absurd ⟨by omega,by omega,t⟩ d
       rw [e]
       simp only [BS,LB,ab,Nat.reduceLT,Nat.reduceEqDiff]
       exact⟨p,_,rfl,by simp only [Int.natCast_nonneg,true_iff];exact fun h=>d (h i hlt)⟩
   . simp only [BS,LB,ab,Nat.reduceLT,Nat.reduceEqDiff,r7,r8,aA,hlt]
     exact⟨mo,_,rfl,⟨fun h=>by omega,fun h=>absurd (fun j S=>hok j (by omega)) h⟩⟩
 . exact⟨XC _,Mo.refl U,⟨[],0,fun _=>none,J,qE,fun x=>by simp⟩,fun j S=>by omega,by simp [aa,aP],by simp [aa,aP,bW,ae],by simp [aa],by simp [aa]⟩
noncomputable instance mayDec(N:Nat)(l:List Int):Decidable (gT N l):=Classical.propDecidable _
theorem mayCf_ok{h0:Hp}(g:h0.t.Sized h0.n){b5 b2 a N:Nat}{v:Value}{l:List Int}(j:av h0 1 (encI .i64) v l)(k:l.length<=1000)(m:h0.load b5 0 1=some [.map (some a)])(o:h0.load b2 0 1=some [.int .i64 N])(p:h0.get a=some (.map [] 0))(q:b5≠a)(s:b2≠a)(d:Decidable (∀i,i<l.length->OkAt N l i)):
 Ret zM 131 [v,.func (.func 130) #[] #[ptrTo b5,ptrTo b2]] h0 fun r t=>Mo (· =a) h0 t/\r=.bool (!decide (∀i,i<l.length->OkAt N l i)):=by
 refine ac (n:=9) (rs:=[.tmp 4]) rfl Tryz.e131 rfl rfl rfl (lbt rfl) ?_
 simp only [BS,LB,Nat.reduceLT,Nat.reduceEqDiff]
 refine step_ret (mayIdx_ok g j k m o p q s) ?_
 rintro r h ⟨e,z,rfl,f⟩
 by_cases c: ∀i,i<l.length->OkAt N l i
 . have b: ¬(0<=z):=fun h=>f.1 h c
   simp only [BS,LB,ab,Nat.reduceLT,Nat.reduceEqDiff,b]
   exact⟨e,by rw [decide_eq_true c];rfl⟩
 . have b:0<=z:=f.2 c
   simp only [BS,LB,ab,Nat.reduceLT,Nat.reduceEqDiff,b]
   exact⟨e,by rw [decide_eq_false c];rfl⟩
theorem may_ok{h0:Hp}(s:h0.t.Sized h0.n){v:Value}{l:List Int}{N:Nat}(g:av h0 1 (encI .i64) v l)(t:l.length<=1000):aK zM 53 [.int .i64 N,v] h0 (.bool (decide (gT N l))):=by
 have S:=Si s
 refine ac (n:=18) (rs:=[.tmp 4]) rfl Tryz.e53 rfl rfl rfl (lbt rfl) ?_
 simp only [BS,Nat.reduceLT]
 refine ag (bg (by intro x e;cases e)) S ?_;clear S;intro h u S p;simp only [ah]at S
 simp only [BS]
 refine ag pT S ?_;clear S;intro h A S a
 simp only [BS,FQ]
 refine ag ax S ?_;clear S;intro h w S q
 simp only [BS,LB,Nat.reduceLT,Nat.reduceEqDiff]
 refine ay (az S (i:=0) rfl ?_ ?_ ?_ ono) ?_
 . exact(by simp only [FQ])
 . exact(by exact fl_map)
 . exact Xd (lbt rfl)
 clear S;rintro h ⟨S,j⟩;clear j;simp only [LC,ah,lay,Xh,Xi,Nat.reduceAdd]at S
 by_cases f:l.length<=16
 . have k:(l.length:Int)<=16:=by omega
   simp only [BS,LB,Nat.reduceLT,Nat.reduceEqDiff,FQ,g.lenq,k]
   have m:=S.apart
   simp only [keys,XX,List.map_nil,List.filterMap_nil,XU,List.nodup_cons,XW,List.not_mem_nil,or_false,not_or]at m
   have d:Decidable (∀i,i<l.length->OkAt N l i):=Classical.propDecidable _
   refine step_ret (mayCf_ok S.ok (g.gr S.gr) t (S.ld (b:=w) (o:=0) m0 rfl) (S.ld (b:=u) (o:=0) m2 rfl) (S.own _ m1).2 m.1.1 (fun e=>m.2.1 e.symm) d) ?_
   rintro r h ⟨j,rfl⟩
   have y:Gr h0 h:=(S.fr.trans j (fun c z=>.inr (by subst z;exact a)):Mo NoM h0 h).gr
   simp only [BS,LB,ab,Nat.reduceLT,Nat.reduceEqDiff]
   refine⟨?_,y⟩
   congr 1
   by_cases c: ∀i,i<l.length->OkAt N l i
   . have:gT N l:=⟨f,c⟩
     rw [decide_eq_true c,decide_eq_true this];rfl
   . have: ¬gT N l:=fun h=>c h.2
     rw [decide_eq_false c,decide_eq_false this];rfl
 . have k: ¬(l.length:Int)<=16:=by omega
   simp only [BS,LB,ab,Nat.reduceLT,Nat.reduceEqDiff,FQ,g.lenq,k]
   exact⟨by have: ¬gT N l:=fun h=>f h.1;simp [this],S.gr⟩
def Tryz.F03:=aj t1<|aj t2<|aj t3<|aj t4<|aj t24<|aj Z0<|aj t32<|aj t33<|aj t129<|aj t138<|aj t189<|aj Z1<|Z16
def Tryz.F0A:=aj t1<|aj t2<|aj t3<|aj t4<|aj t6<|aj Z3<|aj t24<|aj t59<|t127
open Classical in
noncomputable def dOf(B:List Arc)(s v:Nat):Nat:=if h: ∃x,IsD B s v x then h.choose else 0
theorem dOf_is{B:List Arc}{s v x:Nat}(h:IsD B s v x):dOf B s v=x/\IsD B s v (dOf B s v):=by
 have a: ∃x,IsD B s v x:=⟨x,h⟩
 have e:dOf B s v=a.choose:=by unfold dOf;rw [dif_pos a]
 rw [e]
 exact⟨a.choose_spec.uniq h,a.choose_spec⟩
noncomputable def rowD(B:List Arc)(N s:Nat):List Int:=(Xe N).map fun v=>((dOf B s v:Nat):Int)
theorem rowD_of{B:List Arc}{N s:Nat}{D:Nat->Nat}(h: ∀v,IsD B s v (D v)):((Xe N).map D).map (fun(x:Nat)=>(x:Int))=rowD B N s:=by
 unfold rowD
 rw [X6]
 refine X2 fun v _=>?_
 show((D v:Nat):Int)=_
 rw [(dOf_is (h v)).1]
def RunF(E:Env)(g:FuncId)(a:Gra)(b:Value)(B:List Arc):Prop:= ∀(h:Hp) (d:Nat),h.t.Sized h.n->aV h d b a-> ∀s,s<a.nodes->Ret E g [b,.int .i64 (s:Nat)] h fun r c=>Gr h c/\uW c h.n r B s a.nodes
theorem runTo{a:Gra}(b:Good a){c:Value}:RunF zM 58 a c (seen a.arcs Arc.t Arc.s):=fun h g d e s f=>uX d b e f
theorem runFrom{a:Gra}(b:Good a){c:Value}:RunF zM 59 a c (seen a.arcs Arc.s Arc.t):=fun h g d e s f=>xV d b e f
def PRow(m:Nat)(R:Nat->List Int)(i:Nat)(h:Hp)(F:List Nat)(x:List Value):Prop:= ∃w,x=[w]/\av h 1 (encI .i64) w (R i)/\ ∀c,ar w c->m<=c/\c∉F
theorem rows_ok{h0:Hp}(g:h0.t.Sized h0.n){p e f:Value}(i:Fl p)(j:Fl e)(k:Fl f):Ret zM 57 [p,e,f] h0 fun v d=>Gr h0 d/\ ∃b1 b2 b3,v=.func (.func 133) #[] #[ptrTo b1,ptrTo b2,ptrTo b3]/\h0.n<=b1/\h0.n<=b2/\h0.n<=b3/\d.load b1 0 1=some [e]/\d.load b2 0 1=some [f]/\d.load b3 0 1=some [p]:=by
 have S:=Si g
 refine ac (n:=8) (rs:=[.tmp 6]) rfl Tryz.e57 rfl rfl rfl (lbt rfl) ?_
 simp only [BS,Nat.reduceLT]
 refine ag (bN (by assumption)) S ?_;clear S;intro h b3 S a
 simp only [BS,Nat.reduceLT,Nat.reduceEqDiff,if_false]
 refine ag (bN (by assumption)) S ?_;clear S;intro h b1 S b
 simp only [BS,Nat.reduceLT,Nat.reduceEqDiff,if_false]
 refine ag (bN (by assumption)) S ?_;clear S;intro h b2 S c
 simp only [BS,LB,ab,Nat.reduceLT,Nat.reduceEqDiff]
 exact⟨S.gr,b1,b2,b3,rfl,b,c,a,S.ld m1 rfl,S.ld m0 rfl,S.ld m2 rfl⟩
theorem rows_it{hq h0:Hp}(y:hq.t.Sized hq.n)(d:h0.t.Sized h0.n)(N:dT hq h0)(P:hq.n<=h0.n){t j:Value}{f:Gra}{z b1 b2 b3 m:Nat}(Q:aV hq z t f){l:List Int}(C:av h0 1 (encI .i64) j l)(A: ∀i,i<l.length->0<=l.getD i 0/\l.getD i 0<f.nodes)(E:l.length<1000){g:FuncId}{B:List Arc}(R:RunF zM g f t B)(S:m<=h0.n)
 (T:h0.load b1 0 1=some [j]) (U:h0.load b2 0 1=some [.func (.func g) #[] #[]]) (V:h0.load b3 0 1=some [t]):
 IterP zM 133 [ptrTo b1,ptrTo b2,ptrTo b3] h0 (fun c=>c=b1\/c=b2\/c=b3\/ar j c\/c<hq.n) l.length (PRow m fun i=>rowD B f.nodes (l.getD i 0).toNat):=by
 intro W J Y h F s u
 refine enter (n:=22) (rs:=[]) rfl Tryz.e133 rfl rfl rfl (lbt rfl) ?_
 have G:=s.load d T (.inl rfl)
 simp only [BS,LB,Nat.reduceLT,F03,G,C.lenq]
 refine aQ (fun(i:Nat) e h=>i<=l.length/\ ∃F,ItS h0 (fun c=>c=b1\/c=b2\/c=b3\/ar j c\/c<hq.n) h F/\J i h F/\e 0=.func (.yield W) #[] #[]/\e 2=ptrTo b2/\e 3=ptrTo b3/\e 7=j/\e 8=.int .i64 l.length/\e 9=.int .i64 i) (fun i=>l.length-i) ?_ 0 _ _ ?_
 . clear G
   intro i X e h ⟨hi,F,s,u,r0,r2,r3,r7,r8,r9⟩
   by_cases hlt:i<l.length
   . obtain⟨c,o,p,q⟩:=(s.sl d C (fun b h=>.inr (.inr (.inr (.inl h))))).ix (kd:=.i64) (bK .i64) hlt
     have Z:=s.load d U (.inr (.inl rfl))
     have l3:=s.load d V (.inr (.inr (.inl rfl)))
     have nt:aV h z t f:=Q.keep y (s.keep N P (fun c x=>.inr (.inr (.inr (.inr x)))))
     have w:an .i64 ((i:Int)+1)=((i+1:Nat):Int):=by rw [wrap64]<;>omega
     have H:l.getD i 0=l[i]:=by simp [Xa,hlt]
     have I:=A i hlt
     rw [H]at I
     obtain⟨mk,r⟩: ∃k:Nat,l[i]=k:=⟨l[i].toNat,by omega⟩
     rw [r]at q I
     simp only [BS,LB,Nat.reduceLT,Nat.reduceEqDiff,F03,r0,r2,r3,r7,r8,r9,aA,hlt,p,q,encI,Z,l3]
     refine step_ret (R h z s.ok nt mk (by omega)) ?_
     rintro v K ⟨L,M,vA,vO,D,aL,O,rfl,s1,s2,s3,t4,t5,t6,t7,t8⟩
     simp only [BS,LB,Nat.reduceLT,Nat.reduceEqDiff,F03]
     refine Ad Y (s.gr L) (Y.gr _ _ _ _ u L) (i:=i) hlt ⟨M,rfl,?_,fun c x=>⟨?_,fun hF=>?_⟩⟩ ?_
     . have:=sl_nat s1
       rw [rowD_of t5]at this
       show av K 1 _ M (rowD B f.nodes (l.getD i 0).toNat)
       rw [H,r]
       exact this
     . exact zO S (zO s.n (t6 c (.inl x)))
     . have h1:=s.lt c hF
       have K:=t6 c (.inl x)
       omega
     . intro h' F' a s' _ _
       simp only [BS,LB,Nat.reduceLT,Nat.reduceEqDiff,r9,w]
       exact X (i+1) _ _ (by omega) ⟨by omega,F',s',a,by simp [aa,r0],by simp [aa,r2,ae],by simp [aa,r3,ae],by simp [aa,r7],by simp [aa,r8],by simp [aa]⟩
   . simp only [BS,LB,Nat.reduceLT,r8,r9,aA,hlt]
     have:i=l.length:=by omega
     subst this
     exact bT (cG ⟨rfl,_,rfl,rfl,_,F,rfl,u⟩)
 . exact⟨by omega,F,s,u,by simp [aa,bV],by simp [aa,bV,ae],by simp [aa,bV,ae],by simp [aa],by simp [aa],by simp [aa]⟩
theorem yR {h0:Hp} (ok:h0.t.Sized h0.n) {g:FuncId} {post:Array Value} {D:Nat->Prop} {n m:Nat} {R:Nat->List Int} (it:IterP zM g post.toList h0 D n (PRow m R)) (G:m<=h0.n) (hn:n<1000):
 Ret zM 132 [.slice none 0 0,.func (.func g) #[] post] h0 fun r t=>Gr h0 t/\gp t m r n R:=by
 have S:=Si ok
 refine ac (n:=13) (rs:=[.tmp 4]) rfl Tryz.e132 rfl rfl rfl (lbt rfl) ?_
 simp only [BS,Nat.reduceLT]
 refine ag (bN (by exact bj)) S ?_;clear S;intro h v S W
 simp only [BS,Nat.reduceLT,Nat.reduceEqDiff,if_false]
 replace S:=S.nilG (k:=1)
 have g0:=S.gr
 refine fT S (g:=g) (a:=#[]) (b:=post) (by simp [ca,aa,aP,bW]) rfl rfl ?_
 intro Y C y z af ai g2
 obtain⟨X,Z,z⟩: ∃X:ez,X=_/\St NoM h0 Y [(y,.loop X),(C,.dfr),(v,.row [.slice none 0 0] 1)] [(.slice none 0 0,1,[])]:=⟨_,rfl,z⟩
 have hJ:YldP zM y (fun k t F=> ∃(f:List Value) (p:Value),St NoM h0 t [(y,.loop X),(C,.dfr),(v,.row [p] 1)] [(p,1,f)]/\f.length=k/\k<=n/\(∀i w,f[i]? =some w->av t 1 (encI .i64) w (R i)/\ ∀c,ar w c->m<=c/\c∉F)/\F=keys [(y,.loop X),(C,.dfr),(v,.row [p] 1)] [(p,1,f)]) n (PRow m R):=by
  refine⟨?_,?_,?_⟩
  . rintro i h F ⟨f,p,S,_,_,_,rfl⟩;exact⟨S.ok,fun b A=>S.key_lt A⟩
  . rintro i h F t ⟨f,p,S,a,b,c,rfl⟩ gg;exact⟨f,p,S.call gg,a,b,fun i w l=>⟨(c i w l).1.gr gg,(c i w l).2⟩,rfl⟩
  . rintro i x hR F hi ⟨w,rfl,sw,l⟩ ⟨f,p,S,a,b,c,rfl⟩
    subst Z
    obtain⟨J,K,N,rfl⟩:=sw.form
    have fw:Fl (.slice J K N):=bj
    refine fS (S.get m0) (by rw [Tryz.e132];rfl) rfl ?_
    have P:=S
    replace S:=S.base
    simp only [BS,LB,Nat.reduceLT,Nat.reduceEqDiff]
    refine eX S (i:=0) rfl rfl rfl rfl rfl ?_
    clear S;intro h S
    simp only [LC]at S
    simp only [BS,LB,Nat.reduceLT,Nat.reduceEqDiff,F0A,S.ld (b:=v) (o:=0) m2 rfl]
    refine ag (bI (by exact Tryz.t59.1) (by exact Tryz.e24E) (by decide) (by rfl)) S ?_;clear S;intro h bs S ad;simp only [LC,aT,bA,ah,Nat.reduceMul,Nat.reduceAdd,Xr,Xs,Xn,Xv]at S
    simp only [BS,LB,Nat.reduceLT,Nat.reduceEqDiff]
    have H:aJ h 1 (.slice (some ⟨bs,0,none⟩) 1 1)=some (1,[.slice J K N]):=by simp only [aJ];rw [S.lds (b:=bs) (o:=0) (n:=1*1) m0 (lbt rfl)];rfl
    replace S:=S.drop1
    refine dA (S.grow (j:=0) (m:=1) (new:=[.slice J K N]) rfl Tryz.t59.1 Tryz.e24E (by decide) Tryz.t59.2.2.2.2.2 H rfl (by decide) (by simp [fw.2.1]) (by simp;omega)) ?_
    clear S H;rintro h q S
    simp only [LC]at S
    have fv:Fl q:=by
     rcases(S.gown _ m0).1 with⟨e,_⟩|⟨_,_,e,_⟩
     . rw [show q=_ from e];exact bj
     . rw [show q=_ from e];exact bj
    simp only [BS,LB,Nat.reduceLT,Nat.reduceEqDiff]
    refine ay (az S (i:=2) rfl Tryz.t59.2.2.1 fv (Xd (lbt rfl)) ono) ?_
    clear S;rintro h ⟨S,_⟩
    simp only [LC]at S
    simp only [BS]
    refine dE S (i:=0) rfl ?_
    clear S;intro h S
    simp only [LC]at S
    refine⟨rfl,_,⟨f++[.slice J K N],q,P.rebase S,by simp [a],by omega,fun j u E=>?_,rfl⟩,S.fr,S.key_new⟩
    have s:av h 1 (encI .i64) u (R j)/\ ∀c,ar u c->m<=c/\c∉keys [(y,Ob.dfr),(C,.dfr),(v,.dfr)] [(p,1,f)]/\c<hR.n:=by
     by_cases hj:j<f.length
     . rw [XP hj]at E
       obtain⟨O,B⟩:=c j u E
       exact⟨O.mo S.fr (fun x d I=>(B x d).2 I),fun x d=>⟨(B x d).1,(B x d).2,O.lt P.ok d⟩⟩
     . rw [List.getElem?_append_right (by omega)]at E
       have Q:j-f.length=0:=by
        have:=(List.getElem?_eq_some_iff.1 E).1
        simp at this;omega
       rw [Q]at E
       cases E
       have:j=f.length:=by omega
       subst this
       rw [a]
       exact⟨sw.mo S.fr (fun x d I=>(l x d).2 I),fun x d=>⟨(l x d).1,(l x d).2,sw.lt P.ok d⟩⟩
    refine⟨s.1,fun x d=>⟨(s.2 x d).1,fun G=>?_⟩⟩
    rcases S.key_new x G with h1|h1
    . exact(s.2 x d).2.1 h1
    . have:=(s.2 x d).2.2;omega
 refine eB (it y _ hJ Y _ ?_ ⟨[],_,z,rfl,XC _,fun i w l=>by simp at l,rfl⟩) ?_
 . exact⟨z.ok,z.fr.n,fun b A _=>z.gr.get b A,fun b A h=>by have:=(z.key_own A).elim (fun h=>h) (fun h=>h.elim);omega,fun b A=>z.key_lt A⟩
 . rintro o rc t ⟨rfl,u,F,rfl,f,p,T,a,_,c,rfl⟩
   subst Z
   refine⟨_,T.get m0,XT,?_⟩
   have U: ∀i w,f[i]? =some w->av (t.put y .dead) 1 (encI .i64) w (R i)/\ ∀c,ar w c->m<=c/\c∉keys [(C,.dfr),(v,.row [p] 1)] [(p,1,f)]:=fun i w l=>by
    obtain⟨O,B⟩:=c i w l
    exact⟨O.mo ((Mo.refl (M:=(· =y)) T.ok).put (.inr rfl) .dead) (fun x d e=>(B x d).2 (by rw [e];exact m0)),fun x d=>⟨(B x d).1,fun G=>(B x d).2 (Xg _ G)⟩⟩
   replace T:=T.dead
   have S:=T
   show Run _ _ _ _ _ _ _ _
   simp only [BS,LB,Nat.reduceLT,Nat.reduceEqDiff,F0A,S.ld (b:=v) (o:=0) m1 rfl]
   refine dC (fi [C] _ (L:=[(v,_)]) T.base fun h3 V=>⟨rfl,_,rfl,?_⟩)
   refine⟨(T.fr.trans V.fr (fun c hc=>(T.key_own hc).symm):Mo NoM h0 h3).gr,f,?_,a,fun x d=>?_,fun i w l=>⟨(U i w l).1.mo V.fr (fun x d I=>((U i w l).2 x d).2 I),fun x d=>((U i w l).2 x d).1⟩⟩
   . exact(V.gown _ m0).1.sl (flat_encV f).symm xS (by decide)
   . exact zO G (((T.gblk m0 d).1).elim (fun h=>h) (fun h=>h.elim))
theorem uD{h0:Hp}(b:h0.t.Sized h0.n){g:FuncId}{post:Array Value}{D:Nat->Prop}{n m:Nat}{R:Nat->List Int}(c:IterP zM g post.toList h0 D n (PRow m R))(d:m<=h0.n)(e:n<1000):
 Ret zM 56 [.func (.func g) #[] post] h0 fun r a=>Gr h0 a/\gp a m r n R:=by
 have S:=Si b
 refine ac (n:=5) (rs:=[.tmp 2]) rfl Tryz.e56 rfl rfl rfl (lbt rfl) ?_
 simp only [BS,LB,Nat.reduceLT,Nat.reduceEqDiff]
 refine step_ret (yR S.ok c d e) ?_;intro v h ⟨g,L⟩;replace S:=S.call g;clear g
 simp only [BS,LB,ab,Nat.reduceLT,Nat.reduceEqDiff]
 exact⟨S.gr,L⟩
end Go.Ab
end

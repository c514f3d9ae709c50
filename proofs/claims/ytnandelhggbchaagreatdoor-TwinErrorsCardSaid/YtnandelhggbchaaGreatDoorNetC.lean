/- Nets, cells, flags: what the functions do (part 3). -/
import Derived.Test.YtnandelhggbchaaGreatDoorNetB
open Go.Ab.Tryz
open List renaming mem_append_left->zM,getD_eq_getElem?_getD->Xb,mem_append_right->Xc,append_nil->Xe,range->Xg,cons_append->Xl,filterMap_nil->Xm,take->Xn,drop->Xo,flatMap_append->Xp,getElem_mem->Xq,flatMap_eq_foldl->Xr,length_append->Xs,length_singleton->Xt,nil_append->Xu,getElem?_eq_getElem->Xv,mem_cons_of_mem->Xw,flatMap_cons->Xy,map_cons->XA,mem_cons->XB,not_mem_nil->XC,flatMap_nil->XD,mem_cons_self->XF,replicate->XG,drop_zero->XH,nodup_cons->XJ,map_nil->XL,length_range->XO,all_cons->XR,length_cons->XS,length_map->XU,all_nil->XV,map_eq_flatMap->XW,take_succ_cons->XX,take_of_length_le->X8,perm_append_comm->X9,take_zero->Ya
open Go.Ab.Tryz renaming abEnv->zN,e3E->X6,e94E->Yd
open Nat renaming le_trans->Xa,lt_of_succ_le->Xd,le_refl->Xk,mul_le_mul_right->Xx,zero_le->Xz,zero_mul->XM,zero_add->XN,mul_one->XP,one_mul->XQ,succ_mul->Yc
open Int renaming cast_ofNat_Int->Xf,ofNat_eq_natCast->XI,ofNat->Yb
open Option renaming getD_some->Xh,getD_none->Xi,map_some->XE,isSome_none->XK,isSome_some->XZ,map_none->X7
open Bool renaming and_true->Xj,not_not->XT,false_eq_true->XY
set_option maxHeartbeats 4000000
set_option linter.defProp false
set_option linter.unusedVariables false
set_option linter.unusedSimpArgs false
section
namespace Go.Ab
open Go.Proofs
set_option maxRecDepth 10000
def Tryz.Fz:=aj t1<|aj t2<|aj t3<|aj t4<|aj t5<|aj t6<|aj Z3<|aj t24<|aj t32<|aj t33<|aj t48<|aj t58<|aj t74<|aj Z13<|aj Z8<|aj Z9<|aj Z1<|aj t192<|aj t199<|aj t200<|aj t201<|aj Z12<|aj t218<|aj t275<|aj t277<|aj Z16<|aj Z6<|Z7
structure Sx where
 b:Nat
 p:Nat
 ml:Nat
 ma:Nat
 mc:Nat
 vA:Value
 vH:Value
 el:List (Value×Value×Nat)
 cl:Nat
 ea:List (Value×Value×Nat)
 ca:Nat
 ec:List (Value×Value×Nat)
 cc:Nat
def ij(i:Bool):Nat:=if i then 1 else 0
def iK(i:Bool):Int:=if i then-1 else 1
def Sx.row(x:Sx)(i:Bool):List Value:=[ptrTo x.p,.int .i64 (ij i:Nat),.int .i64 (iK i),x.vA,x.vH,.map (some x.ml),.map (some x.ma),.map (some x.mc)]
def Sx.L(x:Sx)(i:Bool):List (Nat×Ob):=[(x.b,.row (x.row i) 1),(x.ml,.map x.el x.cl),(x.ma,.map x.ea x.ca),(x.mc,.map x.ec x.cc)]
structure Sx.Ok(x:Sx)(s:Sd):Prop where
 ml: ∃f,cN x.el x.cl f/\ ∀v:Nat,f v=(s.L v).map fun(l:Nat)=>Value.int .i64 l
 ma: ∃f,cN x.ea x.ca f/\ ∀v:Nat,(s.L v).isSome=true->f v=some (.int .i64 (byI (s.P v)))
 mc: ∃f,cN x.ec x.cc f/\ ∀v:Nat,f v=if v∈s.O then some (.int .i64 1)else none
def ig(e:Ev2):List Value:=[.int .i64 (e.kind:Nat),.int .i64 (ij e.side:Nat),.int .i64 (e.id:Nat),.int .i64 (e.lab:Nat)]
def eH(pn:Value)(s t:Nat)(vPi:Value)(X:Bool->Sx)(vE:Value)(σ:Bi):List Value:=[pn,.int .i64 (s:Nat),.int .i64 (t:Nat),.slice none 0 0,vPi,ptrTo (X false).b,ptrTo (X true).b,.int .i64 (σ.dist:Nat),.slice none 0 0,vE,.int .i64 (σ.meet:Nat)]
def boL(i:Bool)(br:Nat)(pn:Value)(s t:Nat)(vPi:Value)(X:Bool->Sx)(vE:Value)(σ:Bi):List (Nat×Ob):=(br,.row (eH pn s t vPi X vE σ) 1)::((X i).L i++(X (!i)).L (!i))
def boG(vE:Value)(σ:Bi):List GL:=[(vE,4,σ.ev.flatMap ig)]
structure dL(h:Hp)(br:Nat)(pn:Value)(s t:Nat)(vPi:Value)(X:Bool->Sx)(F:Bool->List Nat)(vE:Value)(N:Nat)(σ:Bi):Prop where
 own: ∀q∈boL false br pn s t vPi X vE σ,Has h q.1 q.2
 ev:eX h (vE,4,σ.ev.flatMap ig)
 nd:(keys (boL false br pn s t vPi X vE σ) (boG vE σ)).Nodup
 heap: ∀i,bC h (F i) (ptrTo (X i).p) N (σ.sd i).K
 ok: ∀i,(X i).Ok (σ.sd i)
 apart: ∀i,∀c∈F i,c∉keys (boL false br pn s t vPi X vE σ) (boG vE σ)/\c∉F (!i)
def boB(br:Nat)(pn:Value)(s t:Nat)(vPi:Value)(X:Bool->Sx)(F:Bool->List Nat)(vE:Value)(σ:Bi):List Nat:=keys (boL false br pn s t vPi X vE σ) (boG vE σ)++(F false++F true)
section
variable{h h':Hp}{br:Nat}{pn:Value}{s t:Nat}{vPi:Value}{X:Bool->Sx}{F:Bool->List Nat}{vE:Value}{N:Nat}{σ:Bi}
theorem lz(i:Bool):List.Perm (boL i br pn s t vPi X vE σ) (boL false br pn s t vPi X vE σ):=by
 cases i with
 |false=>exact List.Perm.refl _
 |true=>exact List.Perm.cons _ X9
theorem dL.apart'(a:dL h br pn s t vPi X F vE N σ)(i:Bool){j:Bool}{c:Nat}(d:c∈F j):c∉keys (boL i br pn s t vPi X vE σ) (boG vE σ):=fun b=>by
 refine(a.apart j c d).1 ?_
 unfold keys at b⊢
 rcases List.mem_append.1 b with h|h
 . exact zM _ (((lz i).map _).mem_iff.1 h)
 . exact Xc _ h
theorem nN{i:Bool}{c:Nat}(a:c∈F i):c∈boB br pn s t vPi X F vE σ:=Xc _ (by cases i;exact zM _ a;exact Xc _ a)
theorem dL.mo{M:Nat->Prop}(a:dL h br pn s t vPi X F vE N σ)(g:Mo M h h')(d: ∀b∈boB br pn s t vPi X F vE σ,¬M b):dL h' br pn s t vPi X F vE N σ:=
 ⟨fun q e=>g.has (a.own q e) (d _ (zM _ (fI e))),
  a.ev.of_get fun b c=>g.get b (a.ev.lt g.ok0 c) (d b (zM _ (eo (p:=(vE,4,σ.ev.flatMap ig)) m0 c))),a.nd,
  fun i=>(a.heap i).mo g (fun b c=>d b (nN c)),a.ok,a.apart⟩
theorem dL.gr(a:dL h br pn s t vPi X F vE N σ)(g:Gr h h'):dL h' br pn s t vPi X F vE N σ:=a.mo (M:=NoM) g.fr (fun _ _ h=>h)
theorem dL.st(a:dL h br pn s t vPi X F vE N σ)(d:h.t.Sized h.n)(i:Bool):St (· ∈boB br pn s t vPi X F vE σ) h h (boL i br pn s t vPi X vE σ) (boG vE σ):=by
 have S:St (· ∈boB br pn s t vPi X F vE σ) h h (boL false br pn s t vPi X vE σ) (boG vE σ):=
  ⟨Mo.refl d,fun p c=>⟨.inr (zM _ (fI c)),a.own p c⟩,fun p c=>by
   simp only [boG,List.mem_singleton]at c
   subst c
   exact⟨a.ev,fun b e=>.inr (zM _ (eo (p:=(vE,4,σ.ev.flatMap ig)) m0 e))⟩,a.nd⟩
 exact S.permL (lz i)
theorem dL.of{M:Nat->Prop}{h0:Hp}(i:Bool)(S:St M h0 h (boL i br pn s t vPi X vE σ) (boG vE σ))(e: ∀i,bC h (F i) (ptrTo (X i).p) N (σ.sd i).K)(f: ∀i,(X i).Ok (σ.sd i))(a: ∀j,∀c∈F j,c∉keys (boL i br pn s t vPi X vE σ) (boG vE σ)/\c∉F (!j)):dL h br pn s t vPi X F vE N σ:=by
 have T:=S.permL (lz (br:=br) (pn:=pn) (s:=s) (t:=t) (vPi:=vPi) (X:=X) (vE:=vE) (σ:=σ) i).symm
 refine⟨fun q g=>(T.own q g).2,(T.gown _ m0).1,T.apart,e,f,fun j c b=>⟨fun d=>(a j c b).1 ?_,(a j c b).2⟩⟩
 unfold keys at d⊢
 rcases List.mem_append.1 d with h|h
 . exact zM _ (((lz i).map _).mem_iff.2 h)
 . exact Xc _ h
theorem dL.rows(a:dL h br pn s t vPi X F vE N σ):Row h br (eH pn s t vPi X vE σ) 1/\ ∀i,Row h (X i).b ((X i).row i) 1:=by
 refine⟨a.own (br,.row _ 1) (by simp [boL]),fun i=>?_⟩
 cases i
 . exact a.own ((X false).b,.row _ 1) (by simp [boL,Sx.L])
 . exact a.own ((X true).b,.row _ 1) (by simp [boL,Sx.L])
end
theorem wS{h0:Hp}(x:h0.t.Sized h0.n){br:Nat}{pn:Value}{s t:Nat}{vPi:Value}{X:Bool->Sx}{F:Bool->List Nat}{vE:Value}{N:Nat}{σ:Bi}(a:dL h0 br pn s t vPi X F vE N σ)
 (y: ∀i v k,(σ.sd i).K v=some k-> -1000000000000000000<=k/\k<=1000000000000000000) (J:σ.dist<=FAR):
 Ret zN 120 [ptrTo br] h0 fun r h'=>Gr h0 h'/\((StopB σ/\r=.pointer none)\/ ∃i,TurnB σ i/\r=ptrTo (X i).b):=by
 have S:=Si x
 have K:=jm
 obtain⟨R,z⟩:=a.rows
 obtain⟨b,L,B,C⟩:=qQ x (a.heap false)
 have e:=R.load1 (o:=5) rfl
 have f:=R.load1 (o:=6) rfl
 have d:=R.load1 (o:=7) rfl
 have D:=(z false).load1 (o:=0) rfl
 have q:=(z true).load1 (o:=0) rfl
 refine ae (n:=64) (rs:=[.tmp 2]) rfl Tryz.e120 rfl rfl rfl (lbt rfl) ?_
 simp only [BS,LB,Nat.reduceLT,Nat.reduceEqDiff,Int.reduceToNat,Int.reduceLE,Int.reduceLT,Xf,Fz,e,D]
 refine an B ?_
 intro M g
 replace S:=S.call g
 obtain⟨c,O,E,G⟩:=qQ S.ok ((a.heap true).gr g)
 replace e:=g.load e
 replace f:=g.load f
 replace d:=g.load d
 replace q:=g.load q
 simp only [BS,LB,Nat.reduceLT,Nat.reduceEqDiff,Nat.reduceAdd,Int.reduceToNat,Int.reduceLE,Int.reduceLT,Xf,Fz,f,q]
 refine an E ?_
 intro P h
 replace S:=S.call h
 replace e:=h.load e
 replace f:=h.load f
 replace d:=h.load d
 rcases C with⟨rfl,H⟩|⟨rfl,j,l⟩
 . simp only [BS,LB,ac,Nat.reduceLT,Nat.reduceEqDiff]
   exact⟨S.gr,.inl (.inl ⟨false,H⟩)⟩
 . rcases G with⟨rfl,I⟩|⟨rfl,m,t1⟩
   . simp only [BS,LB,ac,Nat.reduceLT,Nat.reduceEqDiff]
     exact⟨S.gr,.inl (.inl ⟨true,I⟩)⟩
   . have Q:=y false j b l.1
     have T:=y true m c t1.1
     have u:aq .i64 (b+c)=b+c:=by rw [wrap64]<;>omega
     have w:aq .i64 (2*(σ.dist:Int))=2*(σ.dist:Int):=by rw [wrap64]<;>omega
     by_cases p:2*(σ.dist:Int)<=b+c
     . simp only [BS,LB,ac,Nat.reduceLT,Nat.reduceEqDiff,Fz,d,u,w,p]
       exact⟨S.gr,.inl (.inr ⟨j,b,m,c,l,t1,p⟩)⟩
     . by_cases A:b<=c
       . simp only [BS,LB,ac,Nat.reduceLT,Nat.reduceEqDiff,Int.reduceToNat,Int.reduceLE,Int.reduceLT,Xf,Fz,d,u,w,p,A,e]
         exact⟨S.gr,.inr ⟨false,⟨j,b,m,c,l,t1,by omega,(decide_eq_false (by omega)).symm⟩,rfl⟩⟩
       . simp only [BS,LB,ac,Nat.reduceLT,Nat.reduceEqDiff,Nat.reduceAdd,Int.reduceToNat,Int.reduceLE,Int.reduceLT,Xf,Fz,d,u,w,p,A,f]
         exact⟨S.gr,.inr ⟨true,⟨j,b,m,c,l,t1,by omega,(decide_eq_true (by omega)).symm⟩,rfl⟩⟩
end Go.Ab

end
section
namespace Go.Ab
open Go.Proofs
set_option maxRecDepth 10000
def Tryz.Fb:=aj t1<|aj t2<|aj t3<|aj t4<|aj t5<|aj t6<|aj Z3<|aj Z5<|aj t9<|aj t10<|aj t24<|aj t32<|aj t33<|aj t45<|aj t48<|aj t58<|aj t74<|aj Z13<|aj Z8<|aj Z9<|aj Z1<|aj t192<|aj t199<|aj t200<|aj t201<|aj Z12<|aj t218<|aj t275<|aj t277<|aj Z16<|aj Z6<|Z7
theorem breach_ok {h0:Hp} (ok:h0.t.Sized h0.n) {br:Nat} {pn:Value} {s t:Nat} {vPi:Value} {f:List Int} {X:Bool->Sx} {F:Bool->List Nat} {vE:Value} {N:Nat} {σ:Bi} (a:dL h0 br pn s t vPi X F vE N σ)
 (sP:az h0 1 (encI .i64) vPi f) (lP:f.length=N) (nP: ∀c,ar vPi c->c∉boB br pn s t vPi X F vE σ) (hN:N<=12) {i:Bool} {v lab:Nat} {p:List Nat} (hv:v<N) (hl:lab<=13*bT) (hd:σ.dist<=FAR)
 (hb: ∀j v l,(σ.sd j).L v=some l->l<=13*bT) (bt: ∀l,(σ.sd i).L v=some l->v∉(σ.sd i).O->(σ.sd i).K v=some (2*l+qB (fun v=>f.getD v 0) i v)) (bu:(σ.sd i).L v=none->(σ.sd i).K v=none):
 Ret zN 119 [ptrTo br,ptrTo (X i).b,.int .i64 (v:Nat),.int .i64 (byI p),.int .i64 (lab:Nat)] h0 fun _ h'=>Mo (· ∈boB br pn s t vPi X F vE σ) h0 h'/\ ∃B F',dL h' br pn s t vPi B F' vE N (bS (fun v=>f.getD v 0) i σ v lab p)/\(∀j,(B j).b=(X j).b/\(B j).vA=(X j).vA/\(B j).vH=(X j).vH)/\ ∀c∈boB br pn s t vPi B F' vE (bS (fun v=>f.getD v 0) i σ v lab p),c∈boB br pn s t vPi X F vE σ\/h0.n<=c:=by
 have fr:=jm
 have wm:=j9
 have S:=a.st ok i
 have U:bS (fun v=>f.getD v 0) i σ v lab p=σ-> ∀h,Gr h0 h->Mo (· ∈boB br pn s t vPi X F vE σ) h0 h/\ ∃B F',dL h br pn s t vPi B F' vE N (bS (fun v=>f.getD v 0) i σ v lab p)/\(∀j,(B j).b=(X j).b/\(B j).vA=(X j).vA/\(B j).vH=(X j).vH)/\ ∀c∈boB br pn s t vPi B F' vE (bS (fun v=>f.getD v 0) i σ v lab p),c∈boB br pn s t vPi X F vE σ\/h0.n<=c:=
  fun e h g=>⟨g.fr,X,F,by rw [e];exact a.gr g,fun _=>⟨rfl,rfl,rfl⟩,fun c d=>.inl (by rw [e]at d;exact d)⟩
 have Ho:=a.ok i
 have Hq:=a.ok (!i)
 have H:=a.heap i
 have Hx:=a.heap (!i)
 have hk:=fun j c (d:c∈F j)=>a.apart' i d
 have af: ∀j,∀c∈F j,c∈boB br pn s t vPi X F vE σ\/h0.n<=c:=fun j c d=>.inl (nN d)
 generalize bY:boB br pn s t vPi X F vE σ=BB at S U af
 rcases hX:X i with⟨A,xp,xl,xa,xc,vA,vH,el,cl,ea,ca,ec,cc⟩
 rcases hY:X (!i)with⟨yb,yp,yl,ya,yc,wA,wH,fl,dl,fa,da,fc,dc⟩
 rw [hX]at Ho H
 rw [hY]at Hq Hx
 obtain⟨gl,ML,bi⟩:=Ho.ml
 obtain⟨ga,MA,bv⟩:=Ho.ma
 obtain⟨gc,MC,bk⟩:=Ho.mc
 simp only []at ML MA MC
 simp only [LC,boL,boG,eH,Sx.L,Sx.row,hX,hY]at S hk
 have w: ∀j,∀c∈F j,c≠br/\c≠A/\c≠xl/\c≠xa:=fun j c d=>by
  have h:=hk j c d
  simp only [keys,XA,List.mem_append,XB,not_or]at h
  exact⟨h.1.1,h.1.2.1,h.1.2.2.1,h.1.2.2.2.1⟩
 have l4:h0.load br 4 1=some [vPi]:=S.ld (b:=br) (o:=4) m0 rfl
 have ba:=fun c d=>S.key_lt (b:=c) d
 have ai: ∀j:Bool,j≠i->j= !i:=fun j h=>by cases i<;>cases j<;>first|rfl|exact absurd rfl h
 have bl:(!i)≠i:=by cases i<;>decide
 have Y : ∀(h':Hp) (F6:List Nat) (K L:List (Value×Value×Nat)) (Z ad:Nat) (V:Bi),V=bS (fun v=>f.getD v 0) i σ v lab p->V.sd=cG σ.sd i (dq (fun v=>f.getD v 0) (σ.sd i) i v lab p)->V.ev=σ.ev->
  St (· ∈BB) h0 h' [(br,.row [pn,.int .i64 (s:Nat),.int .i64 (t:Nat),.slice none 0 0,vPi,ptrTo (X false).b,ptrTo (X true).b,.int .i64 (V.dist:Nat),.slice none 0 0,vE,.int .i64 (V.meet:Nat)] 1),(A,.row [ptrTo xp,.int .i64 (ij i:Nat),.int .i64 (iK i),vA,vH,.map (some xl),.map (some xa),.map (some xc)] 1),(xl,.map K Z),(xa,.map L ad),(xc,.map ec cc),(yb,.row [ptrTo yp,.int .i64 (ij (!i):Nat),.int .i64 (iK (!i)),wA,wH,.map (some yl),.map (some ya),.map (some yc)] 1),(yl,.map fl dl),(ya,.map fa da),(yc,.map fc dc)] [(vE,4,σ.ev.flatMap ig)]->
  bC h' F6 (ptrTo xp) N (ct (σ.sd i).K v (some (2*lab+qB (fun v=>f.getD v 0) i v)))->bC h' (F (!i)) (ptrTo yp) N (σ.sd (!i)).K->(∀c∈F6,c∈F i\/h0.n<=c)->cN K Z (dg gl v (some (.int .i64 (lab:Nat))))->cN L ad (dg ga v (some (.int .i64 (byI p))))->
  Mo (· ∈BB) h0 h'/\ ∃B F',dL h' br pn s t vPi B F' vE N (bS (fun v=>f.getD v 0) i σ v lab p)/\(∀j,(B j).b=(X j).b/\(B j).vA=(X j).vA/\(B j).vH=(X j).vH)/\ ∀c∈boB br pn s t vPi B F' vE (bS (fun v=>f.getD v 0) i σ v lab p),c∈BB\/h0.n<=c:=by
  intro h' F6 K L Z ad V bx e1 e2 S H6 G C I J
  rw [<-bx]
  let B:Bool->Sx:=fun j=>if j=i then⟨A,xp,xl,xa,xc,vA,vH,K,Z,L,ad,ec,cc⟩else X j
  let F':Bool->List Nat:=fun j=>if j=i then F6 else F j
  have xi:B i=⟨A,xp,xl,xa,xc,vA,vH,K,Z,L,ad,ec,cc⟩:=if_pos rfl
  have xo:B (!i)=X (!i):=if_neg bl
  have fi:F' i=F6:=if_pos rfl
  have fo:F' (!i)=F (!i):=if_neg bl
  have bb: ∀j,(B j).b=(X j).b/\(B j).vA=(X j).vA/\(B j).vH=(X j).vH:=fun j=>by
   by_cases W:j=i
   . subst W;rw [xi,hX];exact⟨rfl,rfl,rfl⟩
   . rw [ai j W,xo];exact⟨rfl,rfl,rfl⟩
  have eL:boL i br pn s t vPi B vE V=[(br,.row [pn,.int .i64 (s:Nat),.int .i64 (t:Nat),.slice none 0 0,vPi,ptrTo (X false).b,ptrTo (X true).b,.int .i64 (V.dist:Nat),.slice none 0 0,vE,.int .i64 (V.meet:Nat)] 1),(A,.row [ptrTo xp,.int .i64 (ij i:Nat),.int .i64 (iK i),vA,vH,.map (some xl),.map (some xa),.map (some xc)] 1),(xl,.map K Z),(xa,.map L ad),(xc,.map ec cc),(yb,.row [ptrTo yp,.int .i64 (ij (!i):Nat),.int .i64 (iK (!i)),wA,wH,.map (some yl),.map (some ya),.map (some yc)] 1),(yl,.map fl dl),(ya,.map fa da),(yc,.map fc dc)]:=by
   simp only [boL,eH,Sx.L,Sx.row,xi,xo,hY,(bb false).1,(bb true).1,Xl,Xu]
  have eG:boG vE V=[(vE,4,σ.ev.flatMap ig)]:=by unfold boG;rw [e2]
  have bm: ∀c,c∈keys (boL i br pn s t vPi B vE V) (boG vE V)->c<h0.n:=fun c d=>by
   rw [eL,eG]at d
   exact ba c d
  have a6: ∀c,c∈F i\/c∈F (!i)->c∉keys (boL i br pn s t vPi B vE V) (boG vE V):=fun c d O=>by
   rw [eL,eG]at O
   exact d.elim (fun h=>hk i c h O) (fun h=>hk (!i) c h O)
  rw [<-eL,<-eG]at S
  have ap:=fun j c (d:c∈F j)=>(a.apart j c d).2
  have lF:=fun j=>(a.heap j).lt ok
  refine⟨S.fr,B,F',dL.of i S (fun j=>?_) (fun j=>?_) (fun j c d=>?_),bb,fun c d=>?_⟩
  . by_cases W:j=i
    . subst W
      rw [fi,xi,e1,dp]
      exact H6
    . rw [ai j W,fo,xo,e1,j8,hY]
      exact G
  . by_cases W:j=i
    . subst W
      rw [xi,e1,dp]
      refine⟨⟨_,I,fun u=>?_⟩,⟨_,J,fun u hu=>?_⟩,⟨gc,MC,bk⟩⟩
      . simp only [dg,dq]
        by_cases hu:u=v
        . subst hu;simp
        . rw [if_neg (by omega),if_neg hu];exact bi u
      . simp only [dg,dq,updP]at hu⊢
        by_cases bc:u=v
        . subst bc;simp
        . rw [if_neg (by omega),if_neg bc]
          rw [if_neg bc]at hu
          exact bv u hu
    . rw [ai j W,xo,e1,j8]
      exact a.ok _
  . by_cases W:j=i
    . subst W
      rw [fi]at d
      rw [fo]
      rcases C c d with h|h
      . exact⟨a6 c (.inl h),ap _ c h⟩
      . exact⟨fun O=>by have:=bm c O;omega,fun O=>by have:=lF _ c O;omega⟩
    . rw [ai j W]at d⊢
      rw [fo]at d
      rw [XT,fi]
      refine⟨a6 c (.inr d),fun O=>?_⟩
      rcases C c O with h|h
      . exact ap _ c h d
      . have:=lF _ c d;omega
  . have hB: ∀j,∀c∈F' j,c∈BB\/h0.n<=c:=fun j c d=>by
     by_cases W:j=i
     . subst W
       rw [fi]at d
       exact(C c d).elim (fun h=>af _ c h) .inr
     . rw [ai j W,fo]at d
       exact af _ c d
    rcases List.mem_append.1 d with d|d
    . refine(S.key_own ?_).symm
      unfold keys at d⊢
      rcases List.mem_append.1 d with h|h
      . exact zM _ (((lz i).map _).mem_iff.2 h)
      . exact Xc _ h
    . rcases List.mem_append.1 d with d|d
      . exact hB _ c d
      . exact hB _ c d
 refine ae (n:=132) (rs:=[]) rfl Tryz.e119 rfl rfl rfl (lbt rfl) ?_
 simp only [BS,LB,Nat.reduceLT,Nat.reduceEqDiff]
 refine an (bpi_ok S.ok l4 sP (by omega)) ?_
 intro h1 g1
 replace S:=S.call g1
 replace H:=H.gr g1
 replace Hx:=Hx.gr g1
 have E:=jT (x:=(v:Int)) Tryz.t277.1 Tryz.t3.1 (z:=.int .i64 0) (by kernel_rfl) (show h1.get xl=some (.map el cl)from(S.own _ m2).2) ML
 have Q:=jy (x:=(v:Int)) Tryz.t218.1 Tryz.t3.1 (z:=.int .i64 0) (by kernel_rfl) (show h1.get xc=some (.map ec cc)from(S.own _ m4).2) MC
 rw [bi]at E
 rw [bk]at Q
 generalize hp:f.getD v 0=pv
 by_cases M:OpB (fun v=>f.getD v 0) v
 . have ho : decide (-(FAR:Int)<pv/\pv<FAR)=true:=decide_eq_true (by rw [<-hp];exact M)
   by_cases hO:v∈(σ.sd i).O
   . rw [if_pos hO]at Q
     simp only [BS,LB,Nat.reduceLT,Nat.reduceEqDiff,Int.reduceLT,Fb,ho,E,Q,Xh,S.ld (b:=A) (o:=5) m1 rfl,S.ld (b:=A) (o:=7) m1 rfl]
     exact U (by unfold bS;rw [if_pos (.inl hO)]) _ g1
   . rw [if_neg hO]at Q
     have bo:aq .i64 (2*(lab:Int))=2*(lab:Int):=by rw [wrap64]<;>omega
     have b0: -(FAR:Int)<pv/\pv<FAR:=of_decide_eq_true ho
     have bp:aq .i64 (iK i*pv)=iK i*pv:=by rw [wrap64]<;>cases i<;>simp only [iK,if_true,if_false,XY]<;>omega
     have R:iK i*pv=qB (fun v=>f.getD v 0) i v:=by
      unfold qB
      simp only [hp]
      cases i<;>simp [iK]
     have a7:aq .i64 (2*(lab:Int)+iK i*pv)=2*(lab:Int)+iK i*pv:=by rw [wrap64]<;>cases i<;>simp only [iK,if_true,if_false,XY]<;>omega
     cases hL:(σ.sd i).L v with
     | none =>
       rw [hL]at E
       simp only [X7,Xi,XK]at E
       have T:bS (fun v=>f.getD v 0) i σ v lab p=mT ((σ.sd (!i)).L v) ⟨cG σ.sd i (dq (fun v=>f.getD v 0) (σ.sd i) i v lab p),σ.ev,σ.dist,σ.meet⟩ v lab:=by
        unfold bS
        rw [if_neg (by rw [hL];rintro(h|h|h);exact hO h;exact h M;cases h)]
       simp only [BS,LB,Nat.reduceLT,Nat.reduceEqDiff,Int.reduceLT,Fb,ho,E,Q,Xi,S.ld (b:=A) (o:=5) m1 rfl,S.ld (b:=A) (o:=7) m1 rfl]
       refine aE (aJ rfl) (q:=0) (ps:=[]) (by kernel_rfl) ?_
       simp only [BS,LB,cls,Nat.reduceLT,Nat.reduceEqDiff,Nat.reduceAdd,Nat.reducePow,Nat.reduceDiv,Nat.reduceMod,Nat.reduceLeDiff,Fb,S.ld (b:=A) (o:=5) m1 rfl,S.ld (b:=A) (o:=6) m1 rfl]
       obtain⟨h2,n1,e1,ak,bB,bH,_,S1,bd⟩:=S.mentI (i:=2) (x:=(v:Int)) rfl Tryz.t277.1 Tryz.t3.1 (z:=.int .i64 0) (by kernel_rfl) ML
       refine jE (P:=fun h' v'=>h'=h2/\v'=.tuple #[(gl v).getD (.int .i64 0),.int .i64 (Yb n1)]) ⟨h2,_,e1,rfl,rfl⟩ ?_
       rintro h' v' ⟨rfl,rfl⟩
       clear S;have S:=S1;clear S1
       simp only [LC]at S
       obtain⟨K,al,I⟩:=bd (.int .i64 (lab:Nat))
       simp only [BS,LB,cls,Nat.reduceLT,Nat.reduceEqDiff,Nat.reduceAdd,Nat.reducePow,Nat.reduceDiv,Nat.reduceMod,Nat.reduceLeDiff,XI]
       refine dP (S.mstoreI (i:=2) rfl al) ?_
       clear S;rintro h3 ⟨ax,S⟩
       simp only [LC]at S
       simp only [BS,LB,cls,Nat.reduceLT,Nat.reduceEqDiff,Nat.reduceAdd,Nat.reducePow,Nat.reduceDiv,Nat.reduceMod,Nat.reduceLeDiff]
       obtain⟨h4,n2,e2,ay,bP,bX,_,S1,be⟩:=S.mentI (i:=3) (x:=(v:Int)) rfl Tryz.t218.1 Tryz.t3.1 (z:=.int .i64 0) (by kernel_rfl) MA
       refine jE (P:=fun h' v'=>h'=h4/\v'=.tuple #[(ga v).getD (.int .i64 0),.int .i64 (Yb n2)]) ⟨h4,_,e2,rfl,rfl⟩ ?_
       rintro h' v' ⟨rfl,rfl⟩
       clear S;have S:=S1;clear S1
       simp only [LC]at S
       obtain⟨L,aL,J⟩:=be (.int .i64 (byI p))
       simp only [BS,LB,cls,Nat.reduceLT,Nat.reduceEqDiff,Nat.reduceAdd,Nat.reducePow,Nat.reduceDiv,Nat.reduceMod,Nat.reduceLeDiff,XI]
       refine dP (S.mstoreI (i:=3) rfl aL) ?_
       clear S;rintro h5 ⟨a0,S⟩
       simp only [LC]at S
       simp only [BS,LB,Nat.reduceLT,Nat.reduceEqDiff,Nat.reduceAdd,Fb,bo,bp,a7,S.ld (b:=A) (o:=2) m1 rfl,S.ld (b:=A) (o:=0) m1 rfl]
       have H5:=(((H.mo ak (fun c d=>(w i c d).2.2.1)).mo ax (fun c d=>(w i c d).2.2.1)).mo ay (fun c d=>(w i c d).2.2.2)).mo a0 (fun c d=>(w i c d).2.2.2)
       have bf:=(((Hx.mo ak (fun c d=>(w _ c d).2.2.1)).mo ax (fun c d=>(w _ c d).2.2.1)).mo ay (fun c d=>(w _ c d).2.2.2)).mo a0 (fun c d=>(w _ c d).2.2.2)
       refine step_ret (oP S.ok H5 hv (by omega) (bu hL)) ?_
       rintro r h6 ⟨f6,F6,H6,bs⟩
       have k5:=S.fr.n
       have C: ∀c∈F6,c∈F i\/h0.n<=c:=fun c d=>(bs c d).imp (fun h=>h) (fun h=>by omega)
       have G:=bf.mo f6 (fun c d O=>(a.apart (!i) c d).2 (by rw [XT];exact O))
       replace S:=S.stepF f6 (fun c d=>⟨af i c d,hk i c d⟩)
       simp only [BS]
       refine aE (aJ rfl) (q:=0) (ps:=[]) (by kernel_rfl) ?_
       have wo:aq .i64 (1-((ij i:Nat):Int))=((ij (!i):Nat):Int):=by cases i<;>rfl
       have io:ff (.int .i64 ((ij (!i):Nat):Int)) 2=some (ij (!i)):=hZ (by cases i<;>decide)
       have ly:h6.load br (5+ij (!i)) 1=some [ptrTo yb]:=S.ld (b:=br) m0 (by
        cases i
        . show some (ptrTo (X true).b)=_;rw [show X true=_ from hY]
        . show some (ptrTo (X false).b)=_;rw [show X false=_ from hY])
       obtain⟨gq,MQ,bh⟩:=Hq.ml
       have y:=jT (x:=(v:Int)) Tryz.t277.1 Tryz.t3.1 (z:=.int .i64 0) (by kernel_rfl) (show h6.get yl=some (.map fl dl)from(S.own _ m6).2) MQ
       rw [bh]at y
       cases hM:(σ.sd (!i)).L v with
       | none=>
         rw [hM]at y
         simp only [X7,Xi,XK]at y
         simp only [BS,LB,cls,Nat.reduceLT,Nat.reduceEqDiff,Nat.reduceAdd,Nat.reducePow,Nat.reduceDiv,Nat.reduceMod,Nat.reduceLeDiff,Fb,wo,io,ly,y,S.ld (b:=A) (o:=1) m1 rfl,S.ld (b:=yb) (o:=5) m5 rfl]
         refine Y _ F6 _ _ _ _ ⟨cG σ.sd i (dq (fun v=>f.getD v 0) (σ.sd i) i v lab p),σ.ev,σ.dist,σ.meet⟩ ?_ rfl rfl S (by rw [<-R];exact H6) G C I J
         rw [T,hM];rfl
       | some m=>
         have O:=hb _ v m hM
         have a1:aq .i64 ((lab:Int)+(m:Int))=((lab+m:Nat):Int):=by rw [wrap64]<;>omega
         rw [hM]at y
         simp only [XE,Xh,XZ]at y
         by_cases hlt:lab+m<σ.dist
         . have D:((lab+m:Nat):Int)<(σ.dist:Int):=by omega
           simp only [BS,LB,cls,Nat.reduceLT,Nat.reduceEqDiff,Nat.reduceAdd,Nat.reducePow,Nat.reduceDiv,Nat.reduceMod,Nat.reduceLeDiff,Fb,wo,io,ly,y,a1,D,S.ld (b:=A) (o:=1) m1 rfl,S.ld (b:=yb) (o:=5) m5 rfl,S.ld (b:=br) (o:=7) m0 rfl]
           refine aC (aI S (i:=0) rfl Tryz.t2.2.2.1 bM (Xd (lbt rfl)) ono) ?_
           clear S;rintro h7 ⟨S,a2⟩
           simp only [LC]at S
           simp only [BS,LB,Nat.reduceLT,Nat.reduceEqDiff,Fb]
           refine aC (aI S (i:=0) rfl Tryz.t3.2.2.1 bM (Xd (lbt rfl)) ono) ?_
           clear S;rintro h8 ⟨S,a3⟩
           simp only [LC]at S
           simp only [BS]
           have a4: ∀c∈F6,¬c=br:=fun c d=>by
            rcases C c d with h|h
            . exact(w i c h).1
            . have:=ba br (zM _ (XF));intro e;omega
           refine Y _ F6 _ _ _ _ ⟨cG σ.sd i (dq (fun v=>f.getD v 0) (σ.sd i) i v lab p),σ.ev,lab+m,v⟩ ?_ rfl rfl S (by rw [<-R];exact(H6.mo a2 a4).mo a3 a4) ((G.mo a2 (fun c d=>(w _ c d).1)).mo a3 (fun c d=>(w _ c d).1)) C I J
           rw [T,hM];exact(if_pos hlt).symm
         . have D: ¬((lab+m:Nat):Int)<(σ.dist:Int):=by omega
           simp only [BS,LB,cls,Nat.reduceLT,Nat.reduceEqDiff,Nat.reduceAdd,Nat.reducePow,Nat.reduceDiv,Nat.reduceMod,Nat.reduceLeDiff,Fb,wo,io,ly,y,a1,D,S.ld (b:=A) (o:=1) m1 rfl,S.ld (b:=yb) (o:=5) m5 rfl,S.ld (b:=br) (o:=7) m0 rfl]
           refine Y _ F6 _ _ _ _ ⟨cG σ.sd i (dq (fun v=>f.getD v 0) (σ.sd i) i v lab p),σ.ev,σ.dist,σ.meet⟩ ?_ rfl rfl S (by rw [<-R];exact H6) G C I J
           rw [T,hM];exact(if_neg hlt).symm
     | some l =>
       rw [hL]at E
       simp only [XE,Xh,XZ]at E
       by_cases hle:l<=lab
       . have a5:(l:Int)<=(lab:Int):=by omega
         simp only [BS,LB,Nat.reduceLT,Nat.reduceEqDiff,Int.reduceLT,Fb,ho,E,Q,Xi,a5,S.ld (b:=A) (o:=5) m1 rfl,S.ld (b:=A) (o:=7) m1 rfl]
         exact U (by unfold bS;rw [if_pos (.inr (.inr (by rw [hL];exact decide_eq_true hle)))]) _ g1
       . have a5: ¬(l:Int)<=(lab:Int):=by omega
         have T:bS (fun v=>f.getD v 0) i σ v lab p=mT ((σ.sd (!i)).L v) ⟨cG σ.sd i (dq (fun v=>f.getD v 0) (σ.sd i) i v lab p),σ.ev,σ.dist,σ.meet⟩ v lab:=by
          unfold bS
          rw [if_neg (by rw [hL];rintro(h|h|h);exact hO h;exact h M;exact hle (of_decide_eq_true h))]
         simp only [BS,LB,Nat.reduceLT,Nat.reduceEqDiff,Int.reduceLT,Fb,ho,E,Q,Xi,a5,S.ld (b:=A) (o:=5) m1 rfl,S.ld (b:=A) (o:=7) m1 rfl]
         refine aE (aJ rfl) (q:=0) (ps:=[]) (by kernel_rfl) ?_
         simp only [BS,LB,cls,Nat.reduceLT,Nat.reduceEqDiff,Nat.reduceAdd,Nat.reducePow,Nat.reduceDiv,Nat.reduceMod,Nat.reduceLeDiff,Fb,S.ld (b:=A) (o:=5) m1 rfl,S.ld (b:=A) (o:=6) m1 rfl]
         obtain⟨h2,n1,e1,ak,bB,bH,_,S1,bd⟩:=S.mentI (i:=2) (x:=(v:Int)) rfl Tryz.t277.1 Tryz.t3.1 (z:=.int .i64 0) (by kernel_rfl) ML
         refine jE (P:=fun h' v'=>h'=h2/\v'=.tuple #[(gl v).getD (.int .i64 0),.int .i64 (Yb n1)]) ⟨h2,_,e1,rfl,rfl⟩ ?_
         rintro h' v' ⟨rfl,rfl⟩
         clear S;have S:=S1;clear S1
         simp only [LC]at S
         obtain⟨K,al,I⟩:=bd (.int .i64 (lab:Nat))
         simp only [BS,LB,cls,Nat.reduceLT,Nat.reduceEqDiff,Nat.reduceAdd,Nat.reducePow,Nat.reduceDiv,Nat.reduceMod,Nat.reduceLeDiff,XI]
         refine dP (S.mstoreI (i:=2) rfl al) ?_
         clear S;rintro h3 ⟨ax,S⟩
         simp only [LC]at S
         simp only [BS,LB,cls,Nat.reduceLT,Nat.reduceEqDiff,Nat.reduceAdd,Nat.reducePow,Nat.reduceDiv,Nat.reduceMod,Nat.reduceLeDiff]
         obtain⟨h4,n2,e2,ay,bP,bX,_,S1,be⟩:=S.mentI (i:=3) (x:=(v:Int)) rfl Tryz.t218.1 Tryz.t3.1 (z:=.int .i64 0) (by kernel_rfl) MA
         refine jE (P:=fun h' v'=>h'=h4/\v'=.tuple #[(ga v).getD (.int .i64 0),.int .i64 (Yb n2)]) ⟨h4,_,e2,rfl,rfl⟩ ?_
         rintro h' v' ⟨rfl,rfl⟩
         clear S;have S:=S1;clear S1
         simp only [LC]at S
         obtain⟨L,aL,J⟩:=be (.int .i64 (byI p))
         simp only [BS,LB,cls,Nat.reduceLT,Nat.reduceEqDiff,Nat.reduceAdd,Nat.reducePow,Nat.reduceDiv,Nat.reduceMod,Nat.reduceLeDiff,XI]
         refine dP (S.mstoreI (i:=3) rfl aL) ?_
         clear S;rintro h5 ⟨a0,S⟩
         simp only [LC]at S
         simp only [BS,LB,Nat.reduceLT,Nat.reduceEqDiff,Nat.reduceAdd,Fb,bo,bp,a7,S.ld (b:=A) (o:=2) m1 rfl,S.ld (b:=A) (o:=0) m1 rfl]
         have H5:=(((H.mo ak (fun c d=>(w i c d).2.2.1)).mo ax (fun c d=>(w i c d).2.2.1)).mo ay (fun c d=>(w i c d).2.2.2)).mo a0 (fun c d=>(w i c d).2.2.2)
         have bf:=(((Hx.mo ak (fun c d=>(w _ c d).2.2.1)).mo ax (fun c d=>(w _ c d).2.2.1)).mo ay (fun c d=>(w _ c d).2.2.2)).mo a0 (fun c d=>(w _ c d).2.2.2)
         refine step_ret (qg S.ok H5 (by omega) (bt l hL hO) (k:=2*(lab:Int)+iK i*pv) (by rw [R];omega)) ?_
         rintro r h6 ⟨f6,H6⟩
         have C: ∀c∈F i,c∈F i\/h0.n<=c:=fun c d=>.inl d
         have G:=bf.mo f6 (fun c d O=>(a.apart (!i) c d).2 (by rw [XT];exact O))
         replace S:=S.stepF f6 (fun c d=>⟨af i c d,hk i c d⟩)
         simp only [BS]
         refine aE (aJ rfl) (q:=0) (ps:=[]) (by kernel_rfl) ?_
         have wo:aq .i64 (1-((ij i:Nat):Int))=((ij (!i):Nat):Int):=by cases i<;>rfl
         have io:ff (.int .i64 ((ij (!i):Nat):Int)) 2=some (ij (!i)):=hZ (by cases i<;>decide)
         have ly:h6.load br (5+ij (!i)) 1=some [ptrTo yb]:=S.ld (b:=br) m0 (by
          cases i
          . show some (ptrTo (X true).b)=_;rw [show X true=_ from hY]
          . show some (ptrTo (X false).b)=_;rw [show X false=_ from hY])
         obtain⟨gq,MQ,bh⟩:=Hq.ml
         have y:=jT (x:=(v:Int)) Tryz.t277.1 Tryz.t3.1 (z:=.int .i64 0) (by kernel_rfl) (show h6.get yl=some (.map fl dl)from(S.own _ m6).2) MQ
         rw [bh]at y
         cases hM:(σ.sd (!i)).L v with
         | none=>
           rw [hM]at y
           simp only [X7,Xi,XK]at y
           simp only [BS,LB,cls,Nat.reduceLT,Nat.reduceEqDiff,Nat.reduceAdd,Nat.reducePow,Nat.reduceDiv,Nat.reduceMod,Nat.reduceLeDiff,Fb,wo,io,ly,y,S.ld (b:=A) (o:=1) m1 rfl,S.ld (b:=yb) (o:=5) m5 rfl]
           refine Y _ (F i) _ _ _ _ ⟨cG σ.sd i (dq (fun v=>f.getD v 0) (σ.sd i) i v lab p),σ.ev,σ.dist,σ.meet⟩ ?_ rfl rfl S (by rw [<-R];exact H6) G C I J
           rw [T,hM];rfl
         | some m=>
           have O:=hb _ v m hM
           have a1:aq .i64 ((lab:Int)+(m:Int))=((lab+m:Nat):Int):=by rw [wrap64]<;>omega
           rw [hM]at y
           simp only [XE,Xh,XZ]at y
           by_cases hlt:lab+m<σ.dist
           . have D:((lab+m:Nat):Int)<(σ.dist:Int):=by omega
             simp only [BS,LB,cls,Nat.reduceLT,Nat.reduceEqDiff,Nat.reduceAdd,Nat.reducePow,Nat.reduceDiv,Nat.reduceMod,Nat.reduceLeDiff,Fb,wo,io,ly,y,a1,D,S.ld (b:=A) (o:=1) m1 rfl,S.ld (b:=yb) (o:=5) m5 rfl,S.ld (b:=br) (o:=7) m0 rfl]
             refine aC (aI S (i:=0) rfl Tryz.t2.2.2.1 bM (Xd (lbt rfl)) ono) ?_
             clear S;rintro h7 ⟨S,a2⟩
             simp only [LC]at S
             simp only [BS,LB,Nat.reduceLT,Nat.reduceEqDiff,Fb]
             refine aC (aI S (i:=0) rfl Tryz.t3.2.2.1 bM (Xd (lbt rfl)) ono) ?_
             clear S;rintro h8 ⟨S,a3⟩
             simp only [LC]at S
             simp only [BS]
             have a4: ∀c∈F i,¬c=br:=fun c d=>by
              rcases C c d with h|h
              . exact(w i c h).1
              . have:=ba br (zM _ (XF));intro e;omega
             refine Y _ (F i) _ _ _ _ ⟨cG σ.sd i (dq (fun v=>f.getD v 0) (σ.sd i) i v lab p),σ.ev,lab+m,v⟩ ?_ rfl rfl S (by rw [<-R];exact(H6.mo a2 a4).mo a3 a4) ((G.mo a2 (fun c d=>(w _ c d).1)).mo a3 (fun c d=>(w _ c d).1)) C I J
             rw [T,hM];exact(if_pos hlt).symm
           . have D: ¬((lab+m:Nat):Int)<(σ.dist:Int):=by omega
             simp only [BS,LB,cls,Nat.reduceLT,Nat.reduceEqDiff,Nat.reduceAdd,Nat.reducePow,Nat.reduceDiv,Nat.reduceMod,Nat.reduceLeDiff,Fb,wo,io,ly,y,a1,D,S.ld (b:=A) (o:=1) m1 rfl,S.ld (b:=yb) (o:=5) m5 rfl,S.ld (b:=br) (o:=7) m0 rfl]
             refine Y _ (F i) _ _ _ _ ⟨cG σ.sd i (dq (fun v=>f.getD v 0) (σ.sd i) i v lab p),σ.ev,σ.dist,σ.meet⟩ ?_ rfl rfl S (by rw [<-R];exact H6) G C I J
             rw [T,hM];exact(if_neg hlt).symm
 . have ho:decide (-(FAR:Int)<pv/\pv<FAR)=false:=decide_eq_false (by rw [<-hp];exact M)
   simp only [BS,LB,Nat.reduceLT,Nat.reduceEqDiff,Fb,ho,E,S.ld (b:=A) (o:=5) m1 rfl]
   exact U (by unfold bS;rw [if_pos (.inr (.inl M))]) _ g1
def Tryz.FT:=aj t1<|aj t2<|aj t3<|aj t4<|aj t5<|aj t6<|aj Z3<|aj t24<|aj Z0<|aj t32<|aj t33<|aj t48<|aj t58<|aj t74<|aj Z8<|aj Z9<|aj t189<|aj Z1<|aj t192<|aj t199<|aj t200<|aj t201<|aj Z12<|aj t218<|aj t275<|aj t277<|aj Z16<|aj Z6<|Z7
theorem bC.lo{h:Hp}{F:List Nat}{p:Value}{N x:Nat}{K:Nat->Option Int}(a:bC h F p N K):bC {h with lo:=x} F p N K:=by
 obtain⟨c,d,l,e,f,g,i,j⟩:=a.ex
 exact⟨⟨c,d,l,e,f,g,i,j.imp (fun h=>h) (fun⟨m,b,e,k⟩=>⟨m,b,e,⟨k.row,k.ex,k.ne⟩⟩)⟩⟩
theorem vS{h0:Hp}(m:h0.t.Sized h0.n){br s M v:Nat}{f:Gra}(O:bL h0 M (ptrTo s) f){a:List Value}(R:Row h0 br a 1)(d:a[0]? =some (ptrTo s))(g:a.length=11){i:Bool}{j k:Value}(Q:Fl j)(U:Fl k):
 Ret zN 114 [ptrTo br,.int .i64 (ij i:Nat),.int .i64 (v:Nat),.int .i64 (iK i),j,k] h0 fun _ h'=>Mo (· =br) h0 h'/\ ∃(x:Sx) (F:List Nat),Row h' br (a.set (5+ij i) (ptrTo x.b)) 1/\(∀q∈x.L i,Has h' q.1 q.2)/\x.vA=j/\x.vH=k/\x.Ok fm/\bC h' F (ptrTo x.p) f.nodes (fun _=>none)/\(∀c∈keys (x.L i) []++F,h0.n<=c)/\(keys (x.L i) []).Nodup/\ ∀c∈F,c∉keys (x.L i) []:=by
 have S:=St.init1 m (o:=.row a 1) R
 have V:=R.load1 (o:=0) d
 refine ae (n:=32) (rs:=[]) rfl Tryz.e114 rfl rfl rfl (lbt rfl) ?_
 simp only [BS]
 refine aE (aJ rfl) (q:=94400) (ps:=[]) (by kernel_rfl) ?_
 simp only [BS,LB,cls,Nat.reduceLT,Nat.reduceEqDiff,Nat.reduceAdd,Nat.reducePow,Nat.reduceDiv,Nat.reduceMod,Nat.reduceLeDiff,FT,V]
 refine uF (cU (h0:={h0 with lo:=h0.n}) S.ok (O.keep m (fun _ _=>rfl))) ?_
 intro p t
 replace S:=S.call t
 simp only [BS,LB,cls,Nat.reduceLT,Nat.reduceEqDiff,Nat.reduceAdd,Nat.reducePow,Nat.reduceDiv,Nat.reduceMod,Nat.reduceLeDiff]
 refine dq_ret (P:=fun v h'=> ∃F,bC h' F v f.nodes (fun _=>none)/\ ∀b∈F,p.n<=b) ((tZ (h0:={p with lo:=p.n}) S.ok (N:=f.nodes)).mono fun v h' h=>⟨h.1,h.2.imp fun F h=>⟨h.1.lo,h.2⟩⟩) ?_
 rintro u h2 r ⟨F,H,w⟩
 replace S:=S.call r
 have W:=S
 replace S:=S.base
 simp only [LC,keys,XA,XL,Xm]at S
 have X:Fl u:=by obtain⟨_,_,_,rfl,_⟩:=H.ex;exact dC
 simp only [BS,LB,cls,Nat.reduceLT,Nat.reduceEqDiff,Nat.reduceAdd,Nat.reducePow,Nat.reduceDiv,Nat.reduceMod,Nat.reduceLeDiff]
 refine df nG S ?_;clear S;intro h Y S y z
 simp only [BS,LB,cls,Nat.reduceAdd,Nat.reducePow,Nat.reduceDiv,Nat.reduceMod,Nat.reduceLeDiff]
 refine df nG S ?_;clear S;intro h Z S A B
 simp only [BS,LB,cls,Nat.reduceAdd,Nat.reducePow,Nat.reduceDiv,Nat.reduceMod,Nat.reduceLeDiff]
 refine df nG S ?_;clear S;intro h mc S C D
 simp only [BS,LB,cls,Nat.reduceLT,Nat.reduceEqDiff,Nat.reduceAdd,Nat.reducePow,Nat.reduceDiv,Nat.reduceMod,Nat.reduceLeDiff,FT,X,Q,U]
 refine df (a8 (by intro x e;cases e)) S ?_;clear S;intro h xb S E G;simp only [ag]at S
 have io:ff (.int .i64 ((ij i:Nat):Int)) 2=some (ij i):=hZ (by cases i<;>decide)
 simp only [BS,LB,cls,Nat.reduceLT,Nat.reduceEqDiff,Nat.reduceAdd,Nat.reducePow,Nat.reduceDiv,Nat.reduceMod,Nat.reduceLeDiff,FT,io]
 refine dP (aI S (i:=4) rfl Tryz.t200.2.2.1 dC (by rw [g];cases i<;>decide) ono) ?_
 clear S;rintro I ⟨S,mo⟩
 simp only [LC]at S
 simp only [BS,LB,Nat.reduceAdd]
 have k2:=r.n
 have k1:=t.n
 obtain⟨J,ep⟩: ∃b,u=ptrTo b:=by obtain⟨b,_,_,e,_⟩:=H.ex;exact⟨b,e⟩
 subst ep
 have lF:=H.lt r.ok
 have zb:=R.lt m
 have H9:bC I F (ptrTo J) f.nodes (fun _=>none):=H.mo S.fr (fun c d l=>by
  have:=w c d
  have:c=br:=by simpa using l
  omega)
 have K:=S.apart
 simp only [keys,XA,XL,Xm,Xe,XJ,XB,XC,or_false,not_or]at K
 have T:St (· =br) h0 I _ _:=W.rebase S
 refine⟨T.fr,⟨xb,J,Y,Z,mc,j,k,[],0,[],0,[],0⟩,F,T.row m4,?_,rfl,rfl,?_,H9,?_,?_,?_⟩
 . intro q L
   simp only [Sx.L,Sx.row,XB,XC,or_false]at L
   rcases L with rfl|rfl|rfl|rfl
   . exact(T.own _ m0).2
   . exact(T.own _ m3).2
   . exact(T.own _ m2).2
   . exact(T.own _ m1).2
 . exact⟨⟨_,kT,fun v=>rfl⟩,⟨_,kT,fun v h=>by cases h⟩,⟨_,kT,fun v=>(if_neg (by simp [fm])).symm⟩⟩
 . intro c d
   rcases List.mem_append.1 d with d|d
   . simp only [Sx.L,keys,XA,XL,Xm,Xe,XB,XC,or_false]at d
     rcases d with rfl|rfl|rfl|rfl<;>omega
   . have:=w c d;omega
 . simp only [Sx.L,keys,XA,XL,Xm,Xe,XJ,XB,XC,or_false,not_or,List.nodup_nil,and_true,not_false_eq_true]
   obtain⟨⟨a1,a2,a3,a4⟩,⟨b1,b2,b3⟩,⟨c1,c2⟩,_⟩:=K
   exact⟨⟨a3,a2,a1⟩,⟨fun e=>c1 e.symm,fun e=>b2 e.symm⟩,fun e=>b1 e.symm⟩
 . intro c d l
   have:=lF c d
   simp only [Sx.L,keys,XA,XL,Xm,Xe,XB,XC,or_false]at l
   rcases l with rfl|rfl|rfl|rfl<;>omega
def Tryz.FA:=aj t1<|aj t2<|aj t3<|aj t4<|aj t5<|aj Z0<|aj t32<|aj t33<|aj Z2<|aj t189<|aj Z1<|aj t192<|t350
def mS(A:List Arc)(f:Arc->Nat)(a:List Nat):List (List Value):=a.map fun(id:Nat)=>[.int .i64 id,.agg ⟨cE ⟨0,f (A.getD id default),(A.getD id default).w⟩⟩]
theorem arcs_ok'{h0:Hp}(f:h0.t.Sized h0.n){p d e:Value}(g:Fl p)(i:Fl d)(j:Fl e):Ret zN 212 [p,d,e] h0 fun v h'=>Gr h0 h'/\ ∃b1 b2 b3,v=.func (.func 251) #[] #[ptrTo b1,ptrTo b2,ptrTo b3]/\h0.n<=b1/\h0.n<=b2/\h0.n<=b3/\h'.load b1 0 1=some [d]/\h'.load b2 0 1=some [p]/\h'.load b3 0 1=some [e]:=by
 have S:=Si f
 refine ae (n:=8) (rs:=[.tmp 6]) rfl Tryz.e212 rfl rfl rfl (lbt rfl) ?_
 simp only [BS,Nat.reduceLT]
 refine ah (cP (by assumption)) S ?_;clear S;intro h b2 S a
 simp only [BS,Nat.reduceLT,Nat.reduceEqDiff,if_false]
 refine ah (cP (by assumption)) S ?_;clear S;intro h b1 S b
 simp only [BS,Nat.reduceLT,Nat.reduceEqDiff,if_false]
 refine ah (cP (by assumption)) S ?_;clear S;intro h b3 S c
 simp only [BS,LB,ac,Nat.reduceLT,Nat.reduceEqDiff]
 exact⟨S.gr,b1,b2,b3,rfl,b,a,c,S.ld m1 rfl,S.ld m2 rfl,S.ld m0 rfl⟩
theorem arcs_it{hq h0:Hp}(D:hq.t.Sized hq.n)(l:h0.t.Sized h0.n)(O:iv hq h0)(P:hq.n<=h0.n){p t:Value}{k:Gra}{H b1 b2 b3:Nat}(Q:bL hq H p k){d:List Nat}(I:az h0 1 cI t d)(u: ∀id∈d,id<k.arcs.length)(K:d.length<1000){g:FuncId}{f:Arc->Nat}(R:KeyF zN g f)
 (T:h0.load b1 0 1=some [t]) (U:h0.load b2 0 1=some [p]) (e3:h0.load b3 0 1=some [.func (.func g) #[] #[]]):
 IterN zN 251 [] [ptrTo b1,ptrTo b2,ptrTo b3] h0 (fun c=>c=b1\/c=b2\/c=b3\/ar t c\/c<hq.n) (mS k.arcs f d):=by
 intro V J Z W Y h F s B
 refine enter (n:=32) (rs:=[]) rfl Tryz.e251 rfl rfl rfl (lbt rfl) ?_
 have L:=s.load l T (.inl rfl)
 simp only [BS,LB,Nat.reduceLT,FA,L,I.lenq]
 refine cm (fun(i:Nat) m h=>i<=d.length/\ ∃F,ItS h0 (fun c=>c=b1\/c=b2\/c=b3\/ar t c\/c<hq.n) h F/\J i h F/\m 0=.func (.yield V) #[] #[]/\m 1=ptrTo b1/\m 2=ptrTo b2/\m 3=ptrTo b3/\m 9=t/\m 10=.int .i64 d.length/\m 11=.int .i64 i) (fun i=>d.length-i) ?_ 0 _ _ ?_
 . clear L
   intro i X m h ⟨hi,F,s,B,r0,r1,r2,r3,r9,r10,r11⟩
   by_cases hlt:i<d.length
   . obtain⟨c,o,y,E⟩:=(s.sl l I (fun b h=>.inr (.inr (.inr (.inl h))))).ix (kd:=.i64) hI hlt
     have l2:=s.load l U (.inr (.inl rfl))
     have l3:=s.load l e3 (.inr (.inr (.inl rfl)))
     have z:=u _ (Xq hlt)
     have nt:bL h H p k:=Q.keep D (s.keep O P (fun c hc=>.inr (.inr (.inr (.inr hc)))))
     have w:aq .i64 ((i:Int)+1)=((i+1:Nat):Int):=by rw [wrap64]<;>omega
     have S:=Si s.ok
     simp only [BS,LB,Nat.reduceLT,Nat.reduceEqDiff,FA,r2,r9,r10,r11,aW,hlt,y,E,cI,l2]
     refine step_ret (qh S.ok nt z) ?_
     rintro v h2 ⟨r,rfl⟩
     replace S:=S.call r;clear r
     simp only [BS,LB,Nat.reduceLT,Nat.reduceEqDiff,FA]
     refine ah aA S ?_;clear S;intro h G S M
     simp only [BS,LB,Nat.reduceLT,Nat.reduceEqDiff,cE]
     refine aC (S.store (i:=0) rfl ?_ ?_ rfl rfl ?_ ono) ?_
     . exact(by exact Tryz.t99.2.1)
     . exact(by intro x e;cases e)
     . exact lbt rfl
     clear S;rintro h ⟨S,mo⟩;clear mo;simp only [LC,ag,lay,Xn,Xo,Nat.reduceAdd]at S
     simp only [BS,LB,Nat.reduceLT,Nat.reduceEqDiff]
     refine aE (aJ rfl) (q:=0) (ps:=[(4,6)]) (by kernel_rfl) ?_
     simp only [BS,LB,cls,Nat.reduceLT,Nat.reduceEqDiff,Nat.reduceAdd,Nat.reducePow,Nat.reduceDiv,Nat.reduceMod,Nat.reduceLeDiff,FA,r0,r3,S.old l3 (fun h=>h),S.lds (b:=G) (o:=0) (n:=3) m0 (lbt rfl)]
     have A:=(S.row (b:=G) m0).lt S.ok
     refine cD (R _ k.arcs[d[i]] S.ok) ?_
     intro N r
     have C:=ao r A
     replace S:=S.call r;clear r
     simp only [BS,LB,cls,Nat.reduceLT,Nat.reduceEqDiff,Nat.reduceAdd,Nat.reducePow,Nat.reduceDiv,Nat.reduceMod,Nat.reduceLeDiff,FA,S.ld (b:=G) (o:=2) m0 rfl]
     have gd:k.arcs.getD d[i] default=k.arcs[d[i]]:=by simp [Xb,z]
     have hx:(mS k.arcs f d)[i]? =some [.int .i64 (d[i]:Nat),.agg ⟨[.int .i64 0,.int .i64 (f k.arcs[d[i]]:Nat),.int .i64 (k.arcs[d[i]].w:Nat)]⟩]:=by
      unfold mS
      rw [List.getElem?_map,Xv hlt]
      simp only [XE,gd]
      rfl
     refine dn_yield W Y (s.gr S.gr) (Y.gr _ _ _ _ B S.gr) (j:=i) hx ?_ ?_
     . intro N F' a s' _ _
       simp only [BS,LB,cls,Nat.reduceLT,Nat.reduceEqDiff,Nat.reduceAdd,Nat.reducePow,Nat.reduceDiv,Nat.reduceMod,Nat.reduceLeDiff,r11,w]
       refine⟨by simp only [bj,bA,aS,bK,aY,ne_eq,not_false_eq_true,bJ,cb,a9,aX,cu,cR,aO,Nat.reduceLT,Nat.reduceEqDiff,reduceIte,Xj,r0,r1,r2,r3,ab,av C,au C],?_⟩
       exact X (i+1) _ _ (by omega) ⟨by omega,F',s',a,by simp [aa,r0],by simp [aa,r1,ab],by simp [aa,r2,ab],by simp [aa,r3,ab],by simp [aa,r9],by simp [aa,r10],by simp [aa]⟩
     . intro N a _
       simp only [BS,LB,cls,Nat.reduceLT,Nat.reduceEqDiff,Nat.reduceAdd,Nat.reducePow,Nat.reduceDiv,Nat.reduceMod,Nat.reduceLeDiff]
       refine⟨by simp only [bj,bA,aS,bK,aY,ne_eq,not_false_eq_true,bJ,cb,a9,aX,cu,cR,aO,Nat.reduceLT,Nat.reduceEqDiff,reduceIte,Xj,r0,r1,r2,r3,ab,av C,au C],?_⟩
       exact jw rfl ⟨rfl,.inr (.inl ⟨_,rfl,a⟩)⟩
   . simp only [BS,LB,Nat.reduceLT,r10,r11,aW,hlt]
     have:i=d.length:=by omega
     subst this
     exact dT (cq ⟨rfl,_,rfl,rfl,.inl ⟨_,F,rfl,by simpa [mS]using B⟩⟩)
 . exact⟨by omega,F,s,B,by simp [aa,cL],by simp [aa,cL,ab],by simp [aa,cL,ab],by simp [aa,cL,ab],by simp [aa],by simp [aa],by simp [aa]⟩
def Tryz.Fs:=aj t1<|aj t2<|aj t3<|aj t4<|aj t5<|aj t24<|aj t33<|aj t45<|aj t218<|aj Z22<|aj t275<|aj t292<|aj t296<|aj r296<|aj Z6<|Z7
theorem ints_set(l:List Int)(i:Nat)(x:Int):(ints l).set i (.int .i64 x)=ints (l.set i x):=by
 have a: ∀l:List Int,ints l=l.map fun x=>Value.int .i64 x:=fun l=>by
  unfold ints;rw [Xr,XW,Xr];rfl
 rw [a,a,List.map_set]
theorem reach_ok{h0:Hp}(Z:h0.t.Sized h0.n){br d G c N v arc far:Nat}{p U V:Value}{F:List Nat}{K:Nat->Option Int}{O:List Nat}{W:List (Value×Value×Nat)}{f:Int->Option Value}{j:List Int}
 (R:Row h0 br [p,U,.slice (some ⟨d,0,none⟩) N N,V,.map (some G)] 1) (H:bC h0 F p N K) (hN:N<=1000) (a:h0.get G=some (.map W c)) (MI:cN W c f) (CF:ClF O f) (t:Row h0 d (ints j) 1) (D:j.length=N) (I:v<N)
 (Q:d∉F) (d2:br∉F) (d3:br≠d):
 Ret zN 213 [ptrTo br,.int .i64 v,.int .i64 arc,.int .i64 far] h0 fun _ h'=>Mo (fun c=>c∈F\/c=d) h0 h'/\ ∃F' m,bC h' F' p N (iq O K v far)/\(∀b∈F',b∈F\/h0.n<=b)/\Row h' d (ints m) 1/\m.length=N/\((iq O K v far=K/\m=j)\/(v∉O/\iq O K v far=ct K v (some (far:Int))/\m=j.set v arc)):=by
 have S:=Si Z
 have ad:=t.lt Z
 have J:=R.load1 (o:=0) rfl
 have E:=R.load1 (o:=4) rfl
 have l2:=R.load1 (o:=2) rfl
 have pp: ∃b,p=ptrTo b:=by obtain⟨b,_,_,e,_⟩:=H.ex;exact⟨b,e⟩
 obtain⟨bp,rfl⟩:=pp
 refine ae (n:=59) (rs:=[]) rfl Tryz.e213 rfl rfl rfl (lbt rfl) ?_
 simp only [BS,LB,Nat.reduceLT,Nat.reduceEqDiff,Fs,J]
 refine an (Aq S.ok H) ?_
 intro h g;replace S:=S.call g;clear g
 replace a:h.get G=some (.map W c):=S.gr.at a
 have T:=H.gr S.gr
 have y:=jy (x:=(v:Int)) Tryz.t218.1 Tryz.t3.1 (z:=.int .i64 0) (by kernel_rfl) a MI
 rw [CF v]at y
 replace J:=S.old J (fun h=>h)
 replace E:=S.old E (fun h=>h)
 replace l2:=S.old l2 (fun h=>h)
 replace t:Row h d (ints j) 1:=t.gr S.gr
 have R1:=R.gr S.gr
 have u:=S.gr
 by_cases q:v∈O
 . rw [if_pos q,Xh]at y
   simp only [BS,LB,Nat.reduceLT,Nat.reduceEqDiff,Int.reduceLT,Fs,E,y]
   exact⟨u.fr,F,j,by unfold iq;rw [if_pos q];exact T,fun b l=>.inl l,t,D,.inl ⟨by unfold iq;rw [if_pos q],rfl⟩⟩
 . rw [if_neg q,Xi]at y
   have af:=t.lt u.ok
   cases L:K v with
   | none=>
     have w:iq O K v far=ct K v (some (far:Int)):=by unfold iq;rw [if_neg q,L]
     simp only [BS,LB,Nat.reduceLT,Nat.reduceEqDiff,Int.reduceLT,Fs,J,E,y,Xi,XK]
     refine step_ret (oP u.ok T I hN L) ?_
     rintro r A ⟨s,F',X,M⟩
     have B:Row A d (ints j) 1:=s.has (o:=.row _ 1) t Q
     have Y:Row A br [ptrTo bp,U,.slice (some ⟨d,0,none⟩) N N,V,.map (some G)] 1:=s.has (o:=.row _ 1) R1 d2
     have C:=Y.load1 (o:=2) rfl
     have S:=St.init1 s.ok (o:=.row _ 1) B
     simp only [BS,LB,Nat.reduceLT,Nat.reduceEqDiff,Nat.reduceAdd,Fs,C,I]
     refine aC (aI S (i:=0) rfl Tryz.t3.2.2.1 bM (by rw [dr,D];exact I) ono) ?_
     clear S;rintro h3 ⟨S,P⟩
     simp only [LC]at S
     rw [ints_set]at S
     simp only [BS]
     refine⟨(u.fr.trans (s.mono (fun c a=>.inl a)) (fun c a=>.inl a):Mo (fun c=>c∈F\/c=d) h0 A).trans P (fun c a=>.inl (.inr a)),F',j.set v arc,by rw [w];exact X.mo P (fun b l e=>by subst e;rcases M b l with h|h;exact Q h;omega),fun b l=>(M b l).imp (fun h=>h) (fun h=>Xa u.n h),S.row m0,by rw [List.length_set];exact D,.inr ⟨q,w,rfl⟩⟩
   | some k=>
     by_cases hle:k<=(far:Int)
     . have w:iq O K v far=K:=by unfold iq;rw [if_neg q,L];simp only [];rw [if_pos hle]
       simp only [BS,LB,Nat.reduceLT,Nat.reduceEqDiff,Int.reduceLT,Fs,E,y,hle,Xh]
       exact⟨u.fr,F,j,by rw [w];exact T,fun b l=>.inl l,t,D,.inl ⟨w,rfl⟩⟩
     . have w:iq O K v far=ct K v (some (far:Int)):=by unfold iq;rw [if_neg q,L];simp only [];rw [if_neg hle]
       simp only [BS,LB,Nat.reduceLT,Nat.reduceEqDiff,Int.reduceLT,Fs,J,E,y,hle,Xh]
       refine step_ret (qg u.ok T hN L (by omega)) ?_
       rintro r A ⟨s,X⟩
       have B:Row A d (ints j) 1:=s.has (o:=.row _ 1) t Q
       have Y:Row A br [ptrTo bp,U,.slice (some ⟨d,0,none⟩) N N,V,.map (some G)] 1:=s.has (o:=.row _ 1) R1 d2
       have C:=Y.load1 (o:=2) rfl
       have S:=St.init1 s.ok (o:=.row _ 1) B
       simp only [BS,LB,Nat.reduceLT,Nat.reduceEqDiff,Nat.reduceAdd,Fs,C,I]
       refine aC (aI S (i:=0) rfl Tryz.t3.2.2.1 bM (by rw [dr,D];exact I) ono) ?_
       clear S;rintro h3 ⟨S,P⟩
       simp only [LC]at S
       rw [ints_set]at S
       simp only [BS]
       refine⟨(u.fr.trans (s.mono (fun c a=>.inl a)) (fun c a=>.inl a):Mo (fun c=>c∈F\/c=d) h0 A).trans P (fun c a=>.inl (.inr a)),F,j.set v arc,by rw [w];exact X.mo P (fun b l e=>by subst e;exact Q l),fun b l=>.inl l,S.row m0,by rw [List.length_set];exact D,.inr ⟨q,w,rfl⟩⟩
def Tryz.F9:=aj t1<|aj t2<|aj t3<|aj t4<|aj t5<|aj t6<|aj Z3<|aj Z5<|aj t9<|aj t10<|aj t11<|aj t12<|aj Z15<|aj Z18<|aj t15<|aj t16<|aj t17<|aj t24<|aj Z0<|aj t32<|aj t33<|aj t45<|aj t58<|aj Z2<|aj t101<|aj r101<|aj Z23<|aj t181<|aj t189<|aj Z1<|aj t192<|aj t218<|aj Z22<|aj t271<|aj t275<|aj t292<|aj t296<|aj r296<|aj t298<|aj Z6<|aj Z7<|aj t358<|aj Z19<|aj t372<|aj t374<|aj t376<|aj t377<|aj t378<|aj t379<|Z14
def seen(A:List Arc)(fs ft:Arc->Nat):List Arc:=A.map fun a=>⟨fs a,ft a,a.w⟩
def NextF(E:Env)(g:FuncId)(a:Gra)(pn:Value)(fs:Arc->Nat):Prop:= ∀(h:Hp) (d:Nat),h.t.Sized h.n->bL h d pn a-> ∀v,v<a.nodes->Ret E g [pn,.int .i64 (v:Nat)] h fun r b=>Gr h b/\az b 1 cI r (outs a.arcs fs a.arcs.length v)/\ ∀c,ar r c->h.n<=c
def dE(l:List Nat):List Value:=l.flatMap cI
theorem jY(l:List Nat):dE l=l.map fun(x:Nat)=>Value.int .i64 x:=by
 unfold dE;rw [Xr,XW,Xr];rfl
theorem sD(l:List Int):ints l=l.map fun x=>Value.int .i64 x:=by
 unfold ints;rw [Xr,XW,Xr];rfl
theorem jS(l:List Nat):(dE l).length=l.length:=by rw [jY,XU]
theorem wK(l:List Nat)(x:Nat):dE (l++[x])=dE l++dE [x]:=by rw [jY,jY,jY,List.map_append]
theorem seen_at{A:List Arc}{fs ft:Arc->Nat}{i:Nat}(a:i<A.length):(seen A fs ft).getD i default=⟨fs (A.getD i default),ft (A.getD i default),(A.getD i default).w⟩/\(seen A fs ft).getD i default∈seen A fs ft:=by
 have e:(seen A fs ft).getD i default=⟨fs (A.getD i default),ft (A.getD i default),(A.getD i default).w⟩:=by
  unfold seen;simp [Xb,a]
 refine⟨e,?_⟩
 rw [Xb,Xv (by unfold seen;simpa using a)]
 exact Xq _
theorem seen_mem{A:List Arc}{fs ft:Arc->Nat}{a:Arc}(c:a∈seen A fs ft): ∃i,i<A.length/\(seen A fs ft).getD i default=a:=by
 obtain⟨i,b,e⟩:=List.mem_iff_getElem.1 c
 exact⟨i,by unfold seen at b;simpa using b,by simp [Xb,b,e]⟩
def tM(h':Hp)(m:Nat)(r:Value)(B:List Arc)(s N:Nat):Prop:= ∃a b d D e O,r=.agg ⟨[a,b,d]⟩/\az h' 1 cI a ((Xg N).map D)/\az h' 1 (encI .i64) b e/\az h' 1 cI d O/\e.length=N/\(∀v,IsD B s v (D v))/\(∀c,ar a c\/ar b c\/ar d c->m<=c)/\O.Nodup/\ ∀v∈O,v<N
theorem rV{h0:Hp}(c:h0.t.Sized h0.n){F:List Nat}{p:Value}{N:Nat}{K:Nat->Option Int}(H:bC h0 F p N K)(d:N<=1000):Ret zN 202 [p] h0 fun r h'=> ∃(v:Nat) (k:Int) (b:Bool),r=.tuple #[.int .i64 (v:Nat),.int .i64 k,.bool b]/\Mo (· ∈F) h0 h'/\bC h' F p N (if b=true then ct K v none else K)/\(b=true->K v=some k/\ ∀u k',K u=some k'->k<=k')/\(b=false-> ∀v,K v=none):=by
 refine pI (tw c H d) ?_
 rintro r h' (⟨rfl,a,g⟩|⟨v,k,rfl,a,e,f,i⟩)
 . exact⟨0,0,false,rfl,g.fr,H.gr g,fun h=>(by cases h),fun _=>a⟩
 . exact⟨v,k,true,rfl,f,i,fun _=>⟨a,fun u k' h=>by have:=e u k' h;omega⟩,fun h=>(by cases h)⟩
def FloodI(h0:Hp)(B:List Arc)(s N l br g i j m n r:Nat)(x y:FuncId)(O:List Nat)(ρ:Nat->Value)(d:List Deferred)(h:Hp):Prop:=
 ∃ (e:List Nat) (D:Nat->Nat) (K:Nat->Option Int) (F:List Nat) (o:List (Value×Value×Nat)) (c:Nat) (f:Int->Option Value) (p:List Int) (k:Value) (q:Nat) (v:Nat) (a:Int) (b:Bool),d=e.map pR/\
   St NoM h0 h ([(q,Ob.row [.int .i64 a] 1),(l,.row [ptrTo br] 1),(br,.row [ptrTo n,.slice (some ⟨j,0,none⟩) N N,.slice (some ⟨i,0,none⟩) N N,k,.map (some g)] 1),(g,.map o c),(i,.row (ints p) 1),(j,.row (dE ((Xg N).map D)) 1),(m,.row [.slice none 0 0,.slice none 0 0,.slice none 0 0] 1)]++dX e) [(k,1,dE O)]/\
   (∀t∈F,h0.n<=t/\t∉keys ([(q,Ob.row [.int .i64 a] 1),(l,.row [ptrTo br] 1),(br,.row [ptrTo n,.slice (some ⟨j,0,none⟩) N N,.slice (some ⟨i,0,none⟩) N N,k,.map (some g)] 1),(g,.map o c),(i,.row (ints p) 1),(j,.row (dE ((Xg N).map D)) 1),(m,.row [.slice none 0 0,.slice none 0 0,.slice none 0 0] 1)]++dX e) [(k,1,dE O)])/\
   p.length=N/\cN o c f/\ClF O f/\Dj B s N O D K (fun _=>False)/\bC h F (ptrTo n) N (if b=true then ct K v none else K)/\(b=true->K v=some a/\ ∀u w,K u=some w->a<=w)/\(b=false-> ∀v,K v=none)/\
   ρ 0=ptrTo r/\ρ 2=.func (.func x) #[ptrTo r] #[]/\ρ 3=.func (.func y) #[] #[]/\ρ 8=ptrTo m/\ρ 9=ptrTo l/\ρ 10=.int .i64 v/\ρ 11=ptrTo q/\ρ 12=.bool b
theorem yQ {h0:Hp} (ok:h0.t.Sized h0.n) {l:Gra} (al:Good l) {pn:Value} {nb:Nat} (hn:bL h0 nb pn l) {s:Nat} (hs:s<l.nodes) {gN gE:FuncId} {fs ft:Arc->Nat} (hN:NextF zN gN l pn fs) (hE:KeyF zN gE ft) (bi: ∀a∈l.arcs,ft a<l.nodes):
 Ret zN 134 [pn,.int .i64 s,.func (.func gN) #[pn] #[],.func (.func gE) #[] #[]] h0 fun r h'=>Gr h0 h'/\tM h' h0.n r (seen l.arcs fs ft) s l.nodes:=by
 have n1:=al.n1
 have n2:=al.n2
 have S:=Si ok
 have c1: ¬((s:Int)<0):=by omega
 have c2: ¬((l.nodes:Int)<=(s:Int)):=by omega
 obtain⟨bp,ca⟩: ∃b,pn=ptrTo b:=by obtain⟨b,_,_,_,_,_,e,_⟩:=hn.ex;exact⟨b,e⟩
 subst ca
 refine ae (n:=117) (rs:=[.cell 8 222]) rfl Tryz.e134 rfl rfl rfl (lbt rfl) ?_
 simp only [BS,F9]
 refine ah aA S ?_;clear S;intro h W S cx
 simp only [BS,LB,Nat.reduceLT,Nat.reduceEqDiff,F9,c1]
 refine an (cU S.ok (hn.gr S.gr)) ?_;intro h g;replace S:=S.call g;clear g
 simp only [BS,LB,Nat.reduceLT,Nat.reduceEqDiff,c2]
 refine an (cU S.ok (hn.gr S.gr)) ?_;intro h g;replace S:=S.call g;clear g
 simp only [BS,LB,Nat.reduceLT,Nat.reduceEqDiff]
 have nF:=S.fr.n
 have kF:=fun {c} (t:c∈_)=>S.key_lt (b:=c) t
 refine step_ret (tZ S.ok) ?_;intro v h ⟨g,Fh,H,hFn⟩;replace S:=S.call g;clear g
 rename Value=>p
 have dF: ∀c∈Fh,c∉keys [(W,Ob.row [.slice none 0 0,.slice none 0 0,.slice none 0 0] 1)] []:=fun c t w=>by have:=kF w;have:=hFn c t;omega
 have lF:=H.lt S.ok
 have Y:=S
 have gF: ∀c∈Fh,h0.n<=c\/NoM c:=fun c t=>.inl (Xa nF (hFn c t))
 replace S:=S.base
 simp only [BS,LB]
 refine ah (cB (by exact Tryz.t24.1) (by exact Tryz.e2E) (by decide) (by rfl)) S ?_;clear S;intro h bl S a4;simp only [LC,bq,bV,ag,Nat.reduceMul,Nat.reduceAdd,XM,XN,XP,XQ]at S
 simp only [BS,LB,Nat.reduceLT,Nat.reduceEqDiff]
 refine an (cU S.ok (hn.gr (Y.rebase S).gr)) ?_;intro h g;replace S:=S.call g;clear g
 simp only [BS,LB,Nat.reduceLT,Nat.reduceEqDiff]
 have kl:=fun {c} (t:c∈_)=>S.key_lt (b:=c) t
 have kn:=S.fr.n
 refine step_ret (rep64_ok S.ok (x:=72057594037927936) (.inr ⟨bl,0,none,1,rfl,Xk _,S.lds (b:=bl) (o:=0) (n:=1*1) m0 (lbt rfl)⟩) n1 (by omega)) ?_;intro v h ⟨g,bd,ed,nd,Rd⟩;replace S:=S.call g;clear g
 subst ed
 replace S:=S.drop1
 replace S:=S.push (b:=bd) (o:=.row _ 1) (.inl (Xa kn nd)) Rd (fun w=>by have:=kl (Xw _ w);omega)
 simp only [BS,LB]
 refine ah (cB (by exact Tryz.t33.1) (by exact X6) (by decide) (by rfl)) S ?_;clear S;intro h bm S a5;simp only [LC,bq,bV,ag,Nat.reduceMul,Nat.reduceAdd,XM,XN,XP,XQ]at S
 simp only [BS,LB,Nat.reduceLT,Nat.reduceEqDiff]
 refine an (cU S.ok (hn.gr (Y.rebase S).gr)) ?_;intro h g;replace S:=S.call g;clear g
 simp only [BS,LB,Nat.reduceLT,Nat.reduceEqDiff]
 have bo:=fun {c} (t:c∈_)=>S.key_lt (b:=c) t
 have ax:=S.fr.n
 refine step_ret (repI_ok S.ok (x:= -1) (.inr ⟨bm,0,none,1,rfl,Xk _,S.lds (b:=bm) (o:=0) (n:=1*1) m0 (lbt rfl)⟩) n1 (by omega)) ?_;intro v h ⟨g,ba,ea,na,Ra⟩;replace S:=S.call g;clear g
 subst ea
 replace S:=S.drop1
 replace S:=S.push (b:=ba) (o:=.row _ 1) (.inl (Xa ax na)) Ra (fun w=>by have:=bo (Xw _ w);omega)
 have pp: ∃b,p=ptrTo b:=by obtain⟨b,_,_,e,_⟩:=H.ex;exact⟨b,e⟩
 obtain⟨bP,rfl⟩:=pp
 simp only [BS,LB,Nat.reduceLT,Nat.reduceEqDiff,Nat.reduceAdd,F9]
 refine ah nG S ?_;clear S;intro h G S cz
 simp only [BS,LB,Nat.reduceLT,Nat.reduceEqDiff,Nat.reduceAdd,Nat.reduceLeDiff,F9]
 refine ah (a8 (by intro x e;cases e)) S ?_;clear S;intro h C S cA;simp only [ag]at S
 simp only [BS,F9]
 refine ah aA S ?_;clear S;intro h I S cT
 simp only [BS,LB,Nat.reduceLT,Nat.reduceEqDiff]
 refine aC (aI S (i:=0) rfl ?_ ?_ ?_ ono) ?_
 . exact(by simp only [F9])
 . exact(by exact dC)
 . exact Xd (lbt rfl)
 clear S;rintro h ⟨S,mo⟩;clear mo;simp only [LC,ag,lay,Xn,Xo,Nat.reduceAdd]at S
 simp only [BS,LB,Nat.reduceLT,Nat.reduceEqDiff,F9,S.ld (b:=I) (o:=0) m0 rfl,S.ld (b:=C) (o:=0) m1 rfl]
 have d8: ∀c∈Fh,c≠W:=fun c t e=>dF c t (by rw [e];simp [keys])
 have c5:=Xa kn nd
 have c6:=Xa ax na
 clear kl bo kF kn nd ax na Ra Rd
 have HA:=H.mo S.fr dF
 have bt: ∀c∈Fh,c≠I/\c≠C/\c≠G/\c≠ba/\c≠bd/\c≠W:=fun c t=>by have:=lF c t;have:=d8 c t;omega
 replace S:=Y.rebase S
 clear Y dF lF d8 H a4 a5
 have T:=S.baseF Fh
 have nh:=S.fr.n
 have a6: ∀L,(∀c∈keys L [],c=I\/c=C\/c=G\/c=ba\/c=bd\/c=W)-> ∀c∈Fh,c∉keys L []:=fun L hL c t w=>by
  have:=bt c t
  have:=hL c w
  omega
 have ps:Ret zN 200 [ptrTo bP,.int .i64 (s:Nat),.int .i64 0] h _:=oP S.ok HA hs (by omega) rfl
 refine step_ret ps ?_
 rintro r Q ⟨f1,F1,H1,J⟩
 replace S:=S.rebaseF gF (T.stepF f1 (fun c t=>⟨.inl (.inr t),a6 _ (fun c t=>by simpa [keys]using t) c t⟩))
 have P: ∀c∈F1,h0.n<=c/\c∉keys [(I,Ob.row [ptrTo C] 1),(C,.row [ptrTo bP,.slice (some ⟨bd,0,none⟩) l.nodes l.nodes,.slice (some ⟨ba,0,none⟩) l.nodes l.nodes,.slice none 0 0,.map (some G)] 1),(G,.map [] 0),(ba,.row (XG l.nodes (.int .i64 (-1))) 1),(bd,.row (XG l.nodes (.int .i64 72057594037927936)) 1),(W,.row [.slice none 0 0,.slice none 0 0,.slice none 0 0] 1)] []:=fun c t=>by
  rcases J c t with h2|h2
  . exact⟨(gF c h2).elim (fun h=>h) (fun h=>h.elim),a6 _ (fun c t=>by simpa [keys]using t) c h2⟩
  . refine⟨Xa nh h2,fun w=>?_⟩
    have:=T.key_lt (b:=c) (by simpa [keys]using w)
    omega
 clear T a6 bt hFn gF nF J HA f1
 replace S:=S.nilG (k:=1)
 have dj:=dj_init (B:=seen l.arcs fs ft) hs
 have bu:=H1.lt S.ok
 have S1:=S
 replace S:=S.baseF F1
 simp only [BS,LB,Nat.reduceLT,Nat.reduceEqDiff,F9,S.ld (b:=I) (o:=0) m0 rfl,S.ld (b:=C) (o:=0) m1 rfl]
 refine step_ret (rV S.ok H1 (by omega)) ?_
 rintro r h2 ⟨v,k,b,rfl,f2,H2,ay,a0⟩
 replace S:=S.stepF f2 (fun c t=>⟨.inl (.inr t),fun w=>(P c t).2 (by simpa [keys,dY]using w)⟩)
 simp only [BS,LB,Nat.reduceLT,Nat.reduceEqDiff,F9]
 have S2:=S
 replace S:=S.base
 refine ah aA S ?_;clear S;intro h bk S cW
 simp only [BS,LB,Nat.reduceLT,Nat.reduceEqDiff]
 refine aC (aI S (i:=0) rfl ?_ ?_ ?_ ono) ?_
 . exact(by simp only [F9])
 . exact(by exact bM)
 . exact Xd (lbt rfl)
 clear S;rintro h ⟨S,mo⟩;clear mo;simp only [LC,ag,lay,Xn,Xo,Nat.reduceAdd]at S
 simp only [BS,LB,Nat.reduceLT,Nat.reduceEqDiff]
 have H3:=H2.mo S.fr (fun c t w=>(P c t).2 (by simpa [keys,dY]using w))
 refine qv (FloodI h0 (seen l.arcs fs ft) s l.nodes I C G ba bd W bP bp gN gE) (fun O=>l.nodes-O.length) ?_ [] _ _ _ ?_
 . clear S S1 S2 H3 ay a0 H2 f2 H1 dj P bu ps
   intro O ih ρ d hS ⟨dbs,D,K,F,es,c,f,aL,vO,bk,v,key,b,hd,Y,Z,lA,MI,CF,dj,H,ay,a0,r0,r2,r3,r8,r9,r10,r11,r12⟩
   simp only [Xl,Xu]at Y Z
   have S:=Y.base
   cases b with
   | false=>
     simp only [BS,LB,Nat.reduceLT,Nat.reduceEqDiff,F9,r8,r9,r12,S.ld (b:=I) (o:=0) m1 rfl,S.lds (b:=C) (o:=1) (n:=3) m2 (lbt rfl)]
     have a7:Fl vO:=by
      rcases(Y.gown _ m0).1 with⟨e,_⟩|⟨_,_,e,_⟩
      . rw [show vO=_ from e];exact bF
      . rw [show vO=_ from e];exact bF
     refine aC (S.store (i:=6) rfl Tryz.t222.2.1 (by intro x e;cases e) rfl (by simp only [ag,List.drop_succ_cons,XH,XX,Ya,XR,XV,a7.2.1,Xj];rfl) (lbt rfl) ono) ?_
     clear S;rintro h ⟨S,_⟩
     simp only [LC,ag,lay,Xn,Xo,Nat.reduceAdd]at S
     simp only [BS]
     replace S:=(Y.rebase S).permL (L':=dX dbs++[(bk,_),(I,_),(C,_),(G,_),(ba,_),(bd,_),(W,_)]) X9
     subst hd
     refine gW (ns dbs _ S fun h' S'=>?_)
     have lT:=S'.lds (b:=W) (o:=0) (n:=3) m6 (lbt rfl)
     refine⟨rfl,_,rF (by decide) (by simp only [aO,r8,ab,Nat.reduceEqDiff,reduceIte];exact cF Tryz.t222.1 Tryz.t222.2.1 lT),S'.gr,?_⟩
     refine⟨_,_,_,D,aL,O,rfl,?_,?_,?_,lA,dj.done (a0 rfl) n2,?_,dj.nd,dj.lt⟩
     . refine .inr ⟨bd,0,none,l.nodes,by rw [XU,XO],by rw [XU,XO];exact Xk _,?_⟩
       have:=(S'.row (b:=bd) m5).load (o:=0) (n:=((Xg l.nodes).map D).length*1) (by rw [jS];omega)
       rw [this,XH,X8 (by rw [jS];omega)];rfl
     . refine .inr ⟨ba,0,none,l.nodes,by rw [lA],by rw [lA];exact Xk _,?_⟩
       have:=(S'.row (b:=ba) m4).load (o:=0) (n:=aL.length*1) (by rw [dr];omega)
       rw [this,XH,X8 (by rw [dr];omega)];rfl
     . exact(S'.gown _ m0).1.sl rfl hI (by decide)
     . rintro c (h|h|h)
       . have h:bd=c:=h
         subst h;exact((S'.own _ m5).1).elim (fun h=>h) (fun h=>h.elim)
       . have h:ba=c:=h
         subst h;exact((S'.own _ m4).1).elim (fun h=>h) (fun h=>h.elim)
       . exact((S'.gblk m0 h).1).elim (fun h=>h) (fun h=>h.elim)
   | true =>
     simp only [if_true]at H
     obtain⟨hk,bv⟩:=ay rfl
     obtain⟨_,n,rfl,_,_⟩:=dj.i3 v key hk
     obtain⟨cc,cf,bb,da⟩:=dj.pop hk bv
     have lk:=jy (x:=(v:Int)) Tryz.t218.1 Tryz.t3.1 (z:=.int .i64 0) (by kernel_rfl) (show hS.get G=some (.map es c)from(S.own _ m3).2) MI
     rw [CF v,if_neg cf,Xi]at lk
     have w1:aq .i64 1=1:=rfl
     simp only [BS,LB,Nat.reduceLT,Nat.reduceEqDiff,Int.reduceAdd,F9,r9,r10,r12,lk,w1,S.ld (b:=I) (o:=0) m1 rfl,S.ld (b:=C) (o:=4) m2 rfl]
     refine aC (S.mputI (i:=3) rfl Tryz.t218.1 Tryz.t3.1 MI _) ?_
     clear S;rintro h ⟨_,R,c',bx,S⟩
     simp only [LC]at S
     simp only [BS]
     refine aE (aJ rfl) (q:=0) (ps:=[]) (by kernel_rfl) ?_
     simp only [BS,LB,cls,Nat.reduceLT,Nat.reduceEqDiff,Nat.reduceAdd,Nat.reducePow,Nat.reduceDiv,Nat.reduceMod,Nat.reduceLeDiff,F9,r9,r10,r11,bb,S.ld (b:=I) (o:=0) m1 rfl,S.ld (b:=C) (o:=1) m2 rfl,S.ld (b:=bk) (o:=0) m0 rfl]
     refine dP (aI S (i:=5) rfl Tryz.t2.2.2.1 bM (by rw [jS,XU,XO];exact bb) ono) ?_
     clear S;rintro h ⟨S,_⟩
     simp only [LC]at S
     have eD:(dE ((Xg l.nodes).map D)).set v (.int .i64 (n:Nat))=dE ((Xg l.nodes).map fun u=>if u=v then n else D u):=by
      rw [jY,jY,List.map_map,List.map_map]
      have:=kZ (N:=l.nodes) (k:=v) (F:=(fun(x:Nat)=>Value.int .i64 x)∘D) (F':=(fun(x:Nat)=>Value.int .i64 x)∘fun u=>if u=v then n else D u) (fun u _ hu=>by simp [hu])
      rw [<-this];simp
     rw [eD]at S
     simp only [BS,LB,Nat.reduceAdd]
     refine aE (aJ rfl) (q:=128) (ps:=[(0,8)]) (by kernel_rfl) ?_
     simp only [BS,LB,cls,Nat.reduceLT,Nat.reduceEqDiff,Nat.reduceAdd,Nat.reducePow,Nat.reduceDiv,Nat.reduceMod,Nat.reduceLeDiff,F9,r9,r10,S.ld (b:=I) (o:=0) m1 rfl,S.ld (b:=C) (o:=3) m2 rfl]
     refine df (cB (by exact Tryz.t33.1) (by exact X6) (by decide) (by rfl)) S ?_;clear S;intro h bs S cX cY;simp only [LC,bq,bV,ag,Nat.reduceMul,Nat.reduceAdd,XM,XN,XP,XQ]at S
     simp only [BS,LB,cls,Nat.reduceLT,Nat.reduceEqDiff,Nat.reduceAdd,Nat.reducePow,Nat.reduceDiv,Nat.reduceMod,Nat.reduceLeDiff]
     have bB:aP h 1 (.slice (some ⟨bs,0,none⟩) 1 1)=some (1,dE [v]):=by simp only [aP];rw [S.lds (b:=bs) (o:=0) (n:=1*1) m0 (lbt rfl)];rfl
     replace S:=S.drop1
     refine jE (S.grow (j:=0) (m:=1) (new:=dE [v]) rfl Tryz.t33.1 X6 (by decide) Tryz.t33.2.2.2.2.2 bB rfl (by decide) rfl (by rw [jS,jS];have:=dj.len;simp;omega)) ?_
     clear S bB;rintro h A S
     simp only [LC,<-wK]at S
     have a7:Fl A:=by
      rcases(S.gown _ m0).1 with⟨e,_⟩|⟨_,_,e,_⟩
      . rw [show A=_ from e];exact bF
      . rw [show A=_ from e];exact bF
     simp only [BS,LB,cls,Nat.reduceLT,Nat.reduceEqDiff,Nat.reduceAdd,Nat.reducePow,Nat.reduceDiv,Nat.reduceMod,Nat.reduceLeDiff,F9]
     refine dP (aI S (i:=2) rfl Tryz.t33.2.2.1 a7 (Xd (lbt rfl)) ono) ?_
     clear S;rintro h ⟨S,_⟩
     simp only [LC]at S
     simp only [BS,LB,Nat.reduceLT,Nat.reduceEqDiff,Nat.reduceAdd,r0,r2,r10]
     have pv:vO=.slice none 0 0\/ ∃c n,vO=.slice (some ⟨c,0,some 1⟩) n n/\c≠I:=by
      rcases(Y.gown _ m0).1 with⟨e,_⟩|⟨c,n,e,_⟩
      . exact .inl e
      . refine .inr ⟨c,n,e,fun h=>?_⟩
        exact(Y.gblk (c:=c) m0 (by rw [show vO=_ from e];rfl)).2 (by subst h;exact List.mem_map_of_mem (f:=Prod.fst) m1)
     refine⟨?_,?_⟩
     . clear ih
       rcases pv with rfl|⟨cO,nO,rfl,bH⟩
       . simp only [bj,bA,aS,bK,aY,ne_eq,not_false_eq_true,bJ,cb,a9,aX,cu,cR,aO,Nat.reduceLT,Nat.reduceEqDiff,reduceIte,Xj,r9,ab,wO,noteSl,pair_x,entry_nl,mW]
       . simp only [bj,bA,aS,bK,aY,ne_eq,not_false_eq_true,bJ,cb,a9,aX,cu,cR,aO,Nat.reduceLT,Nat.reduceEqDiff,reduceIte,Xj,r9,ab,wO,noteSl,nH bH,nH bH.symm]
     have kO: ∀c∈keys ((bk,Ob.row [.int .i64 (n:Nat)] 1)::(I,.row [ptrTo C] 1)::(C,.row [ptrTo bP,.slice (some ⟨bd,0,none⟩) l.nodes l.nodes,.slice (some ⟨ba,0,none⟩) l.nodes l.nodes,vO,.map (some G)] 1)::(G,.map es c)::(ba,.row (ints aL) 1)::(bd,.row (dE ((Xg l.nodes).map D)) 1)::(W,.row [.slice none 0 0,.slice none 0 0,.slice none 0 0] 1)::dX dbs) [(vO,1,dE O)],c<hS.n:=fun c t=>Y.key_lt t
     have kS:=fun {c} t=>S.key_lt (b:=c) t
     have dc:=(Y.rebase S).gr.n
     refine step_ret (hN _ nb S.ok (hn.gr (Y.rebase S).gr) v bb) ?_
     rintro vl h ⟨g,sl,bX⟩
     have kn:=S.fr.n
     have gn:=g.n
     replace S:=S.call g;clear g
     simp only [BS,LB,Nat.reduceLT,Nat.reduceEqDiff,r3]
     have ax:=S.fr.n
     have dd:=fun {c} t=>sl.lt S.ok (b:=c) t
     refine step_ret (arcs_ok' S.ok dC sl.fl gI) ?_;intro v h ⟨g,b1,b2,b3,e,q1,q2,q3,y1,y2,y3⟩;replace S:=S.call g;replace sl:=sl.gr g;clear g
     subst e
     simp only [BS]
     have hH:=H.mo S.fr (fun c t w=>(Z c t).2 w)
     have bY:=H.lt Y.ok
     refine mF S (g:=251) (a:=#[]) (b:=#[ptrTo b1,ptrTo b2,ptrTo b3]) (by simp [cu,aa,ab]) rfl rfl ?_
     intro h2 db lb S' de dm g2
     have R1:=Y.rebase S'
     obtain⟨X,hX,R1⟩: ∃X:gR,X=_/\St NoM h0 h2 ((lb,.loop X)::(db,.dfr)::(bk,Ob.row [.int .i64 (n:Nat)] 1)::(I,.row [ptrTo C] 1)::(C,.row [ptrTo bP,.slice (some ⟨bd,0,none⟩) l.nodes l.nodes,.slice (some ⟨ba,0,none⟩) l.nodes l.nodes,A,.map (some G)] 1)::(G,.map R c')::(ba,.row (ints aL) 1)::(bd,.row (dE ((Xg l.nodes).map fun u=>if u=v then n else D u)) 1)::(W,.row [.slice none 0 0,.slice none 0 0,.slice none 0 0] 1)::dX dbs) [(A,1,dE (O++[v]))]:=⟨_,rfl,R1⟩
     have b0:ClF (O++[v]) (dg f (v:Int) (some (.int .i64 1))):=fun u=>by
      unfold dg
      by_cases e:u=v
      . subst e;simp
      . have e': ¬((u:Int)=(v:Int)):=by omega
        rw [if_neg e',CF u]
        simp [e]
     have hJ :Yld zN lb (fun k h' F'=> ∃K' Fh E,St NoM h0 h' ((lb,.loop X)::(db,.dfr)::(bk,Ob.row [.int .i64 (n:Nat)] 1)::(I,.row [ptrTo C] 1)::(C,.row [ptrTo bP,.slice (some ⟨bd,0,none⟩) l.nodes l.nodes,.slice (some ⟨ba,0,none⟩) l.nodes l.nodes,A,.map (some G)] 1)::(G,.map R c')::(ba,.row (ints E) 1)::(bd,.row (dE ((Xg l.nodes).map fun u=>if u=v then n else D u)) 1)::(W,.row [.slice none 0 0,.slice none 0 0,.slice none 0 0] 1)::dX dbs) [(A,1,dE (O++[v]))]/\
      bC h' Fh (ptrTo bP) l.nodes K'/\(∀c∈Fh,h0.n<=c/\c∉keys ((lb,.loop X)::(db,.dfr)::(bk,Ob.row [.int .i64 (n:Nat)] 1)::(I,.row [ptrTo C] 1)::(C,.row [ptrTo bP,.slice (some ⟨bd,0,none⟩) l.nodes l.nodes,.slice (some ⟨ba,0,none⟩) l.nodes l.nodes,A,.map (some G)] 1)::(G,.map R c')::(ba,.row (ints E) 1)::(bd,.row (dE ((Xg l.nodes).map fun u=>if u=v then n else D u)) 1)::(W,.row [.slice none 0 0,.slice none 0 0,.slice none 0 0] 1)::dX dbs) [(A,1,dE (O++[v]))])/\
      E.length=l.nodes/\Dj (seen l.arcs fs ft) s l.nodes (O++[v]) (fun u=>if u=v then n else D u) K' (fun a=> ∃id∈(outs l.arcs fs l.arcs.length v).drop k,(seen l.arcs fs ft).getD id default=a)/\
      F'=keys ((lb,.loop X)::(db,.dfr)::(bk,Ob.row [.int .i64 (n:Nat)] 1)::(I,.row [ptrTo C] 1)::(C,.row [ptrTo bP,.slice (some ⟨bd,0,none⟩) l.nodes l.nodes,.slice (some ⟨ba,0,none⟩) l.nodes l.nodes,A,.map (some G)] 1)::(G,.map R c')::(ba,.row (ints E) 1)::(bd,.row (dE ((Xg l.nodes).map fun u=>if u=v then n else D u)) 1)::(W,.row [.slice none 0 0,.slice none 0 0,.slice none 0 0] 1)::dX dbs) [(A,1,dE (O++[v]))]++Fh) (fun _ _=>False) (mS l.arcs ft (outs l.arcs fs l.arcs.length v)):=by
      clear ih S' R1 y1 y2 y3 hH S g2 H Z sl
      refine⟨?_,?_,fun _ _ h=>h.elim,?_⟩
      . rintro k h F' ⟨K',Fh,E,S,H,Z,_,_,rfl⟩
        exact⟨S.ok,fun b hb=>(List.mem_append.1 hb).elim (fun hb=>S.key_lt hb) (fun hb=>H.lt S.ok b hb)⟩
      . rintro k h F' h' ⟨K',Fh,E,S,H,q⟩ g
        exact⟨K',Fh,E,S.call g,H.gr g,q⟩
      . rintro k x h F' hx ⟨K',Fh,E,S,H,Z,be,U,rfl⟩
        have bf:k<(outs l.arcs fs l.arcs.length v).length:=by
         have:=(List.getElem?_eq_some_iff.1 hx).1
         simpa [mS]using this
        unfold mS at hx
        rw [List.getElem?_map,Xv bf]at hx
        cases hx
        have w:=jV.1 (Xq bf)
        rw [List.drop_eq_getElem_cons bf]at U
        generalize(outs l.arcs fs l.arcs.length v)[k]=id at w U
        obtain⟨ad,bh⟩:=w
        subst hX
        refine mw (S.get m0) (by rw [Tryz.e134];rfl) rfl ?_
        have S1:=S
        replace S:=S.base
        simp only [BS,LB,Nat.reduceLT,Nat.reduceEqDiff,F9]
        refine ah aA S ?_;clear S;intro h b4 S ch
        simp only [BS,LB,Nat.reduceLT,Nat.reduceEqDiff,Xf,cE]
        refine aC (S.store (i:=0) rfl ?_ ?_ rfl rfl ?_ ono) ?_
        . exact(by exact Tryz.t99.2.1)
        . exact(by intro x e;cases e)
        . exact lbt rfl
        clear S;rintro h ⟨S,mo⟩;clear mo;simp only [LC,ag,lay,Xn,Xo,Nat.reduceAdd]at S
        simp only [BS]
        refine kz S (i:=1) rfl rfl rfl rfl rfl ?_
        clear S;intro h S
        simp only [LC]at S
        have af:l.arcs.getD id default∈l.arcs:=by rw [Xb,Xv ad];exact Xq ad
        have dn:=al.arcs _ af
        have ds:O.length*bT<=12*bT:=Xx _ (Xa dj.len n2)
        have c0:=j9
        have wn:aq .i64 ((n:Int)+((l.arcs.getD id default).w:Int))=((n+(l.arcs.getD id default).w:Nat):Int):=by rw [wrap64]<;>omega
        simp only [BS,LB,Nat.reduceLT,Nat.reduceEqDiff,F9,r9,r11,wn,S.ld (b:=I) (o:=0) m4 rfl,S.ld (b:=b4) (o:=1) m0 rfl,S.ld (b:=b4) (o:=2) m0 rfl,S.ld (b:=bk) (o:=0) m3 rfl]
        have hH:=H.mo S.fr (fun c t w=>(Z c t).2 w)
        have b5:=H.lt S1.ok
        have d3:C≠ba:=fun e=>by
         have ap:=S1.apart
         subst e
         simp only [keys,XA,Xl,XJ,XB]at ap
         exact ap.2.2.2.2.1 (.inr (.inl trivial))
        replace S:=S.mono (M':=fun c=>c∈keys _ _\/c∈Fh) (fun _ h=>.inl h)
        refine step_ret (reach_ok S.ok (arc:=id) (far:=n+(l.arcs.getD id default).w) (S.row m5) hH (by omega) (S.own _ m6).2 bx b0 (S.row m7) be (bi _ af) (fun h=>(Z ba h).2 (by simp [keys])) (fun h=>(Z C h).2 (by simp [keys])) d3) ?_
        rintro r h ⟨f1,F2,cj,H2,ai,ck,cl,dx⟩
        have kq:=fun {c} t=>S.key_lt (b:=c) t
        have qn:=S.fr.n
        have S2:=S.callF (i:=7) (Fh:=Fh) rfl f1 (fun c t=>⟨.inl (.inr t),fun w=>by
         rcases List.mem_cons.1 w with e|w
         . have:=b5 c t;omega
         . exact(Z c t).2 w⟩) (o':=.row _ 1) ck
        simp only [List.set_cons_zero,List.set_cons_succ]at S2
        clear S
        simp only [BS]
        have S:=S2.base
        refine iu S (i:=1) rfl ?_
        clear S;intro h S
        simp only [LC]at S
        have H3:=H2.mo S.fr (fun c t w=>by
         rcases ai c t with Q|Q
         . rcases List.mem_cons.1 w with e|w
           . have:=b5 c Q;omega
           . exact(Z c Q).2 w
         . have:=kq w;omega)
        have S3:=S2.rebase S
        refine .inl ⟨rfl,_,⟨_,F2,cj,S1.rebaseF (fun c t=>.inl (Z c t).1) S3.drop1,H3,fun c t=>?_,cl,?_,rfl⟩,S3.fr.mono (fun c t=>List.mem_append.2 t),fun c t=>?_⟩
        . rcases ai c t with Q|Q
          . exact Z c Q
          . refine⟨Xa S1.fr.n (Xa qn Q),fun w=>?_⟩
            have:=kq (Xw _ w)
            omega
        . obtain⟨e1,e2⟩:=seen_at (fs:=fs) (ft:=ft) ad
          have:=U.relaxed (ex':=fun a=> ∃cn∈(outs l.arcs fs l.arcs.length v).drop (k+1),(seen l.arcs fs ft).getD cn default=a) e2 (by rw [e1];show fs _∈_;rw [bh];simp) (by rw [e1];exact bi _ af) (by rw [e1];simp only [bh,if_true];rw [Xs,Xt,Yc];omega) (fun b hb hx=>by
           by_cases eb:b=(seen l.arcs fs ft).getD id default
           . exact .inr eb
           . left
             rintro⟨i,hi,rfl⟩
             rcases List.mem_cons.1 hi with e|hi
             . subst e;exact eb rfl
             . exact hx ⟨i,hi,rfl⟩)
          simp only [e1,bh,if_true]at this
          exact this
        . rcases List.mem_append.1 t with t|t
          . exact .inl (zM _ t)
          . rcases ai c t with Q|Q
            . exact .inl (Xc _ Q)
            . exact .inr (Xa qn Q)
     have ak:=(Y.rebase S).gr
     have c3:=lh l.arcs fs l.arcs.length v
     have dy:=al.many
     refine eW (iter_useN (arcs_it (hq:=h0) ok S.ok ak.keep ak.n hn sl (fun id ad=>(jV.1 ad).1) (by omega) hE y1 y2 y3) (fun _ _ h=>h) hJ (h:=h2) (F:=keys ((lb,.loop X)::(db,.dfr)::(bk,Ob.row [.int .i64 (n:Nat)] 1)::(I,.row [ptrTo C] 1)::(C,.row [ptrTo bP,.slice (some ⟨bd,0,none⟩) l.nodes l.nodes,.slice (some ⟨ba,0,none⟩) l.nodes l.nodes,A,.map (some G)] 1)::(G,.map R c')::(ba,.row (ints aL) 1)::(bd,.row (dE ((Xg l.nodes).map fun u=>if u=v then n else D u)) 1)::(W,.row [.slice none 0 0,.slice none 0 0,.slice none 0 0] 1)::dX dbs) [(A,1,dE (O++[v]))]++F) g2.fr (fun b hb hlt=>?_)
      ⟨ct K v none,F,aL,R1,hH.gr g2,fun c t=>⟨(Z c t).1,fun w=>?_⟩,lA,cc.exm (fun a ha hs=>?_),rfl⟩) fun o rc h' y=>ou y ?_
     . rcases List.mem_append.1 hb with V|V
       . have k2:=(R1.key_own V).elim (fun h=>h) (fun h=>h.elim)
         rcases List.mem_cons.1 V with e|V
         . simp only []at e;omega
         . rcases List.mem_cons.1 V with e|V
           . simp only []at e;omega
           . have k1:=kS V
             rintro(h|h|h|h|h)
             . omega
             . omega
             . omega
             . have:=bX b h;omega
             . omega
       . have k1:=bY b V
         have k2:=(Z b V).1
         rintro(h|h|h|h|h)
         . omega
         . omega
         . omega
         . have:=bX b h;omega
         . omega
     . have k1:=bY c t
       have d0:=S.fr.n
       rcases List.mem_cons.1 w with e|w
       . simp only []at e;omega
       . rcases List.mem_cons.1 w with e|w
         . simp only []at e;omega
         . rcases S.key_own w with Q|Q
           . omega
           . exact(Z c t).2 Q
     . obtain⟨i,hi,e⟩:=seen_mem ha
       refine⟨i,?_,e⟩
       rw [XH]
       refine jV.2 ⟨hi,?_⟩
       have:=(seen_at (fs:=fs) (ft:=ft) hi).1
       rw [e]at this
       rw [this]at hs
       exact hs
     . rintro Fx ⟨K',a1,E,T,H',J,be,U,rfl⟩
       clear hJ R1 y1 y2 y3 hH S' S
       rw [show(mS l.arcs ft (outs l.arcs fs l.arcs.length v)).length=(outs l.arcs fs l.arcs.length v).length by simp [mS],List.drop_length]at U
       replace U:=U.exm (ex':=fun _=>False) (fun a _ h=>by obtain⟨i,hi,_⟩:=h;cases hi)
       subst hX
       refine⟨_,T.get m0,Nat.zero_ne_one,?_⟩
       have ai: ∀c∈a1,c≠lb:=fun c t e=>(J c t).2 (by rw [e];exact m0)
       have H2:=H'.mo ((Mo.refl (M:=(· =lb)) T.ok).put (.inr rfl) .dead) ai
       replace T:=T.dead
       replace J:=fun c t=>And.intro (J c t).1 (fun w=>(J c t).2 (Xw _ w))
       have S:=T.base
       show Run _ _ _ _ _ _ _ _
       simp only [BS,Nat.reduceLT,Nat.reduceEqDiff,if_false,F9,r11,S.ld (b:=bk) (o:=0) m1 rfl]
       refine ah aA S ?_;clear S;intro h a2 S cp
       simp only [BS,LB,Nat.reduceLT,Nat.reduceEqDiff,r11]
       refine aC (aI S (i:=0) rfl ?_ ?_ ?_ ono) ?_
       . exact(by simp only [F9])
       . exact(by exact bM)
       . exact Xd (lbt rfl)
       clear S;rintro h ⟨S,mo⟩;clear mo;simp only [LC,ag,lay,Xn,Xo,Nat.reduceAdd]at S
       simp only [BS,LB,Nat.reduceLT,Nat.reduceEqDiff,F9,r9,S.ld (b:=I) (o:=0) m3 rfl,S.ld (b:=C) (o:=0) m4 rfl]
       have H3:=H2.mo S.fr (fun c t w=>(J c t).2 w)
       have cr:=H2.lt T.ok
       have a3: ∀c∈a1,h0.n<=c/\c∉keys ([(a2,Ob.row [.int .i64 (n:Nat)] 1),(I,.row [ptrTo C] 1),(C,.row [ptrTo bP,.slice (some ⟨bd,0,none⟩) l.nodes l.nodes,.slice (some ⟨ba,0,none⟩) l.nodes l.nodes,A,.map (some G)] 1),(G,.map R c'),(ba,.row (ints E) 1),(bd,.row (dE ((Xg l.nodes).map fun u=>if u=v then n else D u)) 1),(W,.row [.slice none 0 0,.slice none 0 0,.slice none 0 0] 1)]++dX (db::dbs)) [(A,1,dE (O++[v]))]:=fun c t=>by
        refine⟨(J c t).1,fun w=>?_⟩
        have Q:=(J c t).2
        have h2:=cr c t
        simp [keys,dX]at w
        rcases w with h|h|h|h|h|h|h|h|h|h
        . omega
        all_goals exact Q (by simp [keys,dX,h])
       replace S:=(T.rebase S).sub (L':=(a2,Ob.row [.int .i64 (n:Nat)] 1)::(db,.dfr)::(I,.row [ptrTo C] 1)::(C,.row [ptrTo bP,.slice (some ⟨bd,0,none⟩) l.nodes l.nodes,.slice (some ⟨ba,0,none⟩) l.nodes l.nodes,A,.map (some G)] 1)::(G,.map R c')::(ba,.row (ints E) 1)::(bd,.row (dE ((Xg l.nodes).map fun u=>if u=v then n else D u)) 1)::(W,.row [.slice none 0 0,.slice none 0 0,.slice none 0 0] 1)::dX dbs) (G':=[(A,1,dE (O++[v]))]) (.cons_cons _ (.cons_cons _ (List.sublist_cons_self _ _))) (List.Sublist.refl _)
       replace S:=S.permL (L':=[(a2,Ob.row [.int .i64 (n:Nat)] 1),(I,.row [ptrTo C] 1),(C,.row [ptrTo bP,.slice (some ⟨bd,0,none⟩) l.nodes l.nodes,.slice (some ⟨ba,0,none⟩) l.nodes l.nodes,A,.map (some G)] 1),(G,.map R c'),(ba,.row (ints E) 1),(bd,.row (dE ((Xg l.nodes).map fun u=>if u=v then n else D u)) 1),(W,.row [.slice none 0 0,.slice none 0 0,.slice none 0 0] 1)]++dX (db::dbs)) (.cons _ (by
        show(List.append [_,_,_,_,_,_] ((db,Ob.dfr)::dX dbs)).Perm _
        exact List.perm_middle))
       clear T H' H2 J
       have T:=S.baseF a1
       refine step_ret (rV S.ok H3 (by omega)) ?_
       rintro rr h3 ⟨v3,k3,cs,rfl,f3,H4,b6,b7⟩
       replace S:=S.rebaseF (fun c t=>.inl (a3 c t).1) (T.stepF f3 (fun c t=>⟨.inl (.inr t),(a3 c t).2⟩))
       simp only [BS,LB,Nat.reduceLT,Nat.reduceEqDiff,r11]
       clear T
       have T:=S
       replace S:=S.base
       simp only [LC]at S
       refine aC (aI S (i:=0) rfl ?_ ?_ ?_ ono) ?_
       . exact(by simp only [F9])
       . exact(by exact bM)
       . exact Xd (lbt rfl)
       clear S;rintro h ⟨S,mo⟩;clear mo;simp only [LC,ag,lay,Xn,Xo,Nat.reduceAdd]at S
       simp only [BS,LB,Nat.reduceLT,Nat.reduceEqDiff]
       have H5:=H4.mo S.fr (fun c t w=>(a3 c t).2 w)
       replace S:=T.rebase S
       subst hd
       have d1:(O++[v]).length=O.length+1:=by simp
       have c4:=U.len
       refine ih (O++[v]) _ _ _ (by omega) ⟨db::dbs,_,K',a1,R,c',_,E,A,a2,v3,k3,cs,rfl,S,a3,be,bx,b0,U,H5,b6,b7,?_⟩
       refine⟨by simp [aa,r0,ab],by simp [aa,r2,ab],by simp [aa,r3,ab],by simp [aa,r8,ab],by simp [aa,r9,ab],by simp [aa],by simp [aa,ab],by simp [aa]⟩
 . have e1:dE ((Xg l.nodes).map fun _=>FAR)=XG l.nodes (.int .i64 72057594037927936):=by
    rw [jY,List.map_const',XO,List.map_replicate];rfl
   have e2:ints (XG l.nodes (-1))=XG l.nodes (.int .i64 (-1)):=by
    rw [sD,List.map_replicate]
   have S3:=S1.rebaseF (fun c t=>.inl (P c t).1) (S2.rebase S)
   have nn:=S2.fr.n
   refine⟨[],fun _=>FAR,ct (fun _=>none) s (some 0),F1,[],0,fun _=>none,XG l.nodes (-1),.slice none 0 0,bk,v,k,b,rfl,?_,?_,by simp,kT,fun u=>by simp,dj,H3,ay,a0,?_⟩
   . rw [e1,e2];exact S3
   . rw [e1,e2]
     intro c t
     refine⟨(P c t).1,fun w=>?_⟩
     have Q:=(P c t).2
     have h2:=bu c t
     simp [keys,dY,dX]at w Q
     omega
   . refine⟨by simp [aa,ab,bR,cJ],by simp [aa,ab,bR,cJ],by simp [aa,ab,bR,cJ],by simp [aa,ab,bR,cJ],by simp [aa,ab,bR,cJ],by simp [aa,ab,bR,cJ],by simp [aa,ab,bR,cJ],by simp [aa,ab,bR,cJ]⟩
def Tryz.F0O:=aj t1<|aj t2<|aj t3<|Z2
def Tryz.F0P:=aj t1<|aj t2<|aj t3<|Z2
inductive NxtL(nx:Nat->Option (Nat×Nat)):Nat->List Nat->Prop where
 |nil {v:Nat}:nx v=none->NxtL nx v []
 |cons {v x w:Nat} {l:List Nat}:nx v=some (x,w)->NxtL nx w l->NxtL nx v (x::l)
def nxV:Option (Nat×Nat)->Value
 |none=>.tuple #[.int .i64 0,.int .i64 0,.bool false]
 |some (x,w)=>.tuple #[.int .i64 (x:Nat),.int .i64 (w:Nat),.bool true]
theorem chain_ok{h0:Hp}(K:h0.t.Sized h0.n){g:FuncId}{post:Array Value}{nx:Nat->Option (Nat×Nat)}{D:Nat->Prop}(C: ∀h,Gr h0 h-> ∀v,D v->Ret zN g ([.int .i64 (v:Nat)]++post.toList) h fun r h'=>Gr h h'/\r=nxV (nx v))(L: ∀v x w,D v->nx v=some (x,w)->D w){v:Nat}{l:List Nat}(i:D v)(p:NxtL nx v l)(E:l.length<=1000):
 Ret zN 203 [.int .i64 (v:Nat),.func (.func g) #[] post] h0 fun r h'=>Gr h0 h'/\eX h' (r,1,l.flatMap cI)/\ ∀c,ar r c->h0.n<=c:=by
 have S:=Si K
 refine ae (n:=28) (rs:=[.tmp 4]) rfl Tryz.e203 rfl rfl rfl (lbt rfl) ?_
 simp only [BS,LB,Nat.reduceLT,Nat.reduceEqDiff]
 refine step_ret (C _ S.gr v i) ?_
 rintro r Y ⟨M,rfl⟩
 replace S:=S.call M
 have q: ∀(o:Option (Nat×Nat)),∃x w b,nxV o=.tuple #[.int .i64 x,.int .i64 w,.bool b]:=fun o=>by
  rcases o with _|⟨x,w⟩
  . exact⟨_,_,_,rfl⟩
  . exact⟨_,_,_,rfl⟩
 obtain⟨N,O,P,z⟩:=q (nx v)
 simp only [BS,LB,Nat.reduceLT,Nat.reduceEqDiff,z]
 replace S:=S.nilG (k:=1)
 refine cm (fun(a:List Nat) f h=> ∃done v x w b A,l=done++a/\D v/\NxtL nx v a/\nxV (nx v)=.tuple #[.int .i64 x,.int .i64 w,.bool b]/\St NoM h0 h [] [(A,1,dE done)]/\f 1=.func (.func g) #[] post/\f 4=A/\f 5=.int .i64 x/\f 6=.int .i64 w/\f 7=.bool b) (fun a=>a.length) ?_ l _ _ ?_
 . clear S p i z
   intro a Q f h ⟨done,v,x,w,b,A,el,i,p,e,S,r1,r4,r5,r6,r7⟩
   cases p with
   | nil t=>
     rw [t]at e
     simp only [nxV,Value.tuple.injEq,Array.mk.injEq,List.cons.injEq,Value.bool.injEq,Value.int.injEq]at e
     obtain⟨⟨_,rfl⟩,⟨_,rfl⟩,rfl,_⟩:=e
     simp only [BS,LB,ac,Nat.reduceLT,Nat.reduceEqDiff,r4,r7]
     rw [Xe]at el
     subst el
     refine⟨S.gr,(S.gown _ m0).1,fun c R=>?_⟩
     exact((S.gown _ m0).2 c (pH (S.gown _ m0).1 R)).elim (fun h=>h) (fun h=>h.elim)
   | @cons _ y u d t T=>
     rw [t]at e
     simp only [nxV,Value.tuple.injEq,Array.mk.injEq,List.cons.injEq,Value.bool.injEq,Value.int.injEq]at e
     obtain⟨⟨_,rfl⟩,⟨_,rfl⟩,rfl,_⟩:=e
     have F:done.length+(d.length+1)<=1000:=by rw [el]at E;simpa using E
     have G:=L _ _ _ i t
     simp only [BS,LB,Nat.reduceLT,Nat.reduceEqDiff,r4,r5,r7]
     refine ah (cB (by exact Tryz.t33.1) (by exact X6) (by decide) (by rfl)) S ?_;clear S;intro h H S I;simp only [LC,bq,bV,ag,Nat.reduceMul,Nat.reduceAdd,XM,XN,XP,XQ]at S
     simp only [BS,LB,Nat.reduceLT,Nat.reduceEqDiff]
     have s:aP h 1 (.slice (some ⟨H,0,none⟩) 1 1)=some (1,dE [y]):=by simp only [aP];rw [S.lds (b:=H) (o:=0) (n:=1*1) m0 (lbt rfl)];rfl
     replace S:=S.drop1
     refine gf (S.grow (j:=0) (m:=1) (new:=dE [y]) rfl Tryz.t33.1 X6 (by decide) Tryz.t33.2.2.2.2.2 s rfl (by decide) rfl (by rw [jS,jS];simp;omega)) ?_
     clear S s;rintro h B S
     simp only [LC,<-wK]at S
     simp only [BS,LB,Nat.reduceLT,Nat.reduceEqDiff,r1,r6]
     refine step_ret (C _ S.gr u G) ?_
     rintro r Z ⟨U,rfl⟩
     replace S:=S.call U
     obtain⟨V,W,X,J⟩:=q (nx u)
     simp only [BS,LB,Nat.reduceLT,Nat.reduceEqDiff,J]
     exact Q d _ _ (by simp) ⟨done++[y],u,V,W,X,B,by rw [el];simp,G,T,J,S,by simp [aa,r1],by simp [aa],by simp [aa],by simp [aa],by simp [aa]⟩
 . exact⟨[],v,N,O,P,.slice none 0 0,rfl,i,p,z,S,by simp [aa,cL],by simp [aa],by simp [aa],by simp [aa],by simp [aa]⟩
theorem head1_ok{h0:Hp}(d:h0.t.Sized h0.n){a:Arc}:bI zN 116 [.agg ⟨cE a⟩] h0 (.int .i64 (a.t:Nat)):=by
 have S:=Si d
 refine ae (n:=5) (rs:=[.tmp 2]) rfl Tryz.e116 rfl rfl rfl (lbt rfl) ?_
 simp only [BS,Nat.reduceLT,cE]
 refine ah (a8 (by intro x e;cases e)) S ?_;clear S;intro h f S c;simp only [ag]at S
 simp only [BS,LB,ac,Nat.reduceLT,Nat.reduceEqDiff,F0O,S.ld (b:=f) (o:=1) m0 rfl]
 exact S.gr
theorem head2_ok{h0:Hp}(d:h0.t.Sized h0.n){a:Arc}:bI zN 118 [.agg ⟨cE a⟩] h0 (.int .i64 (a.s:Nat)):=by
 have S:=Si d
 refine ae (n:=5) (rs:=[.tmp 2]) rfl Tryz.e118 rfl rfl rfl (lbt rfl) ?_
 simp only [BS,Nat.reduceLT,cE]
 refine ah (a8 (by intro x e;cases e)) S ?_;clear S;intro h f S c;simp only [ag]at S
 simp only [BS,LB,ac,Nat.reduceLT,Nat.reduceEqDiff,F0P,S.ld (b:=f) (o:=0) m0 rfl]
 exact S.gr
def nxB(A:List Arc)(i:Bool)(P:Nat->List Nat)(v:Nat):Option (Nat×Nat):=match P v with
 | []=>none
 |a::_=>some (a,fsB i (A.getD a default))
def Tryz.FH:=aj t1<|aj t2<|aj t3<|aj t4<|aj t5<|aj t6<|aj t24<|aj Z0<|aj t32<|aj t33<|aj t48<|aj t58<|aj t74<|aj Z2<|aj Z8<|aj Z9<|aj t189<|aj Z1<|aj t192<|aj t199<|aj t200<|aj t201<|aj Z12<|aj t218<|aj t275<|aj t277<|aj Z16<|Z7
def Tryz.F0Q:=aj t1<|aj t2<|aj t3<|aj t4<|aj t24<|aj t32<|aj t33<|aj t48<|aj t58<|aj t74<|aj Z8<|aj Z9<|aj Z1<|aj t192<|aj t199<|aj t200<|aj t201<|aj Z12<|aj t218<|aj t275<|aj t277<|aj Z16<|t288
def mb(i:Bool):FuncId:=if i then 118 else 116
theorem yK{h0:Hp}(b:h0.t.Sized h0.n){i:Bool}{a:Arc}:bI zN (mb i) [.agg ⟨cE a⟩] h0 (.int .i64 (ftB i a:Nat)):=by
 cases i
 . exact head1_ok b
 . exact head2_ok b
structure BkAt(h:Hp)(br:Nat)(pn:Value)(m:Nat)(i:Bool)(x:Sx)(s:Sd):Prop where
 l0:h.load br 0 1=some [pn]
 l10:h.load br 10 1=some [.int .i64 (m:Nat)]
 row:Row h x.b (x.row i) 1
 map:h.get x.ma=some (.map x.ea x.ca)
 ok:x.Ok s
theorem BkAt.gr{h h':Hp}{br:Nat}{pn:Value}{m:Nat}{i:Bool}{x:Sx}{s:Sd}(a:BkAt h br pn m i x s)(g:Gr h h'):BkAt h' br pn m i x s:=⟨g.load a.l0,g.load a.l10,a.row.gr g,g.at a.map,a.ok⟩
theorem dL.bk{h:Hp}{br:Nat}{pn:Value}{s t:Nat}{vPi:Value}{X:Bool->Sx}{F:Bool->List Nat}{vE:Value}{N:Nat}{σ:Bi}(a:dL h br pn s t vPi X F vE N σ)(i:Bool):BkAt h br pn σ.meet i (X i) (σ.sd i):=by
 obtain⟨R,b⟩:=a.rows
 refine⟨R.load1 (o:=0) rfl,R.load1 (o:=10) rfl,b i,?_,a.ok i⟩
 have c:Has h (X i).ma (.map (X i).ea (X i).ca):=by
  cases i
  . exact a.own ((X false).ma,.map _ _) (by simp [boL,Sx.L])
  . exact a.own ((X true).ma,.map _ _) (by simp [boL,Sx.L])
 exact c
theorem back1_ok{h0:Hp}(u:h0.t.Sized h0.n){br F K m:Nat}{x:Sx}{f:Sd}{d:Gra}(L:bL h0 K (ptrTo F) d)(g:Good d){i:Bool}(a:BkAt h0 br (ptrTo F) m i x f)(M:x.vH=.func (.func (mb i)) #[] #[])
 {b2 b3 v:Nat} (N:h0.load b2 0 1=some [ptrTo br]) (p:h0.load b3 0 1=some [ptrTo x.b]) (O:(f.L v).isSome=true) (P: ∀e∈f.P v,e<d.arcs.length):
 Ret zN 204 ([.int .i64 (v:Nat)]++[ptrTo b3,ptrTo b2]) h0 fun r h'=>Gr h0 h'/\r=nxV (nxB d.arcs i f.P v):=by
 have S:=Si u
 have n2:=g.n2
 obtain⟨ga,Q,w⟩:=a.ok.ma
 have A:=a.l0
 have G:=a.row.load1 (o:=6) rfl
 have B:=a.row.load1 (o:=4) rfl
 rw [M]at B
 have R:=a.map
 have c:=jy (x:=(v:Int)) Tryz.t218.1 Tryz.t3.1 (z:=.int .i64 0) (by kernel_rfl) R Q
 rw [w v O,Xh]at c
 refine ae (n:=40) (rs:=[.tmp 4,.tmp 5,.tmp 6]) rfl Tryz.e204 rfl rfl rfl (lbt rfl) ?_
 cases j:f.P v with
 | nil=>
   rw [j]at c
   replace c:c9 _ h0 _ _ _ _=some (.int .i64 (-1)):=c
   simp only [BS,LB,ac,Nat.reduceLT,Nat.reduceEqDiff,Int.reduceLT,FH,p,G,c]
   exact⟨S.gr,by unfold nxB;rw [j];rfl⟩
 | cons e l=>
   rw [j]at c
   replace c:c9 _ h0 _ _ _ _=some (.int .i64 (e:Nat)):=c
   have C:=P e (by rw [j];simp)
   have T: ¬((e:Int)<0):=by omega
   simp only [BS,LB,Nat.reduceLT,Nat.reduceEqDiff,FH,p,G,c,T,N,A]
   refine step_ret (qh S.ok L C) ?_
   rintro r h1 ⟨U,rfl⟩
   replace S:=S.call U
   obtain⟨V,W,X⟩:=g.arcs _ (Xq C)
   have k:d.arcs.getD e default=d.arcs[e]:=by simp [Xb,C]
   generalize d.arcs[e]=y at V W X k
   simp only [BS,LB,Nat.reduceLT,Nat.reduceEqDiff,FH,cE]
   refine ah aA S ?_;clear S;intro h s S H
   simp only [BS,LB,Nat.reduceLT,Nat.reduceEqDiff]
   refine aC (S.store (i:=0) rfl ?_ ?_ rfl rfl ?_ ono) ?_
   . exact(by exact Tryz.t99.2.1)
   . exact(by intro x e;cases e)
   . exact lbt rfl
   clear S;rintro h ⟨S,Y⟩;clear Y;simp only [LC,ag,lay,Xn,Xo,Nat.reduceAdd]at S
   have D:=S.old p (fun h=>h)
   have E:=S.old B (fun h=>h)
   have z3:=bD u p
   have z4:=bD u B
   have Z:aq .i64 ((y.s:Int)+(y.t:Int))=(y.s:Int)+(y.t:Int):=by rw [wrap64]<;>omega
   have w2:aq .i64 ((y.s:Int)+(y.t:Int)-(ftB i y:Int))=((fsB i y:Nat):Int):=by
    cases i<;>simp only [ftB,fsB,if_true,if_false,XY]<;>rw [wrap64]<;>omega
   simp only [BS,LB,Nat.reduceLT,Nat.reduceEqDiff]
   refine aE (aJ rfl) (q:=0) (ps:=[(4,11),(2,11)]) (by kernel_rfl) ?_
   simp only [BS,LB,cls,Nat.reduceLT,Nat.reduceEqDiff,Nat.reduceAdd,Nat.reducePow,Nat.reduceDiv,Nat.reduceMod,Nat.reduceLeDiff,FH,D,E,Z,S.ld (b:=s) (o:=0) m0 rfl,S.ld (b:=s) (o:=1) m0 rfl,S.lds (b:=s) (o:=0) (n:=3) m0 (lbt rfl)]
   have k8:=(S.row (b:=s) m0).lt S.ok
   have n0:=S.gr.n
   refine cD (yK (a:=y) S.ok) ?_
   intro h9 t
   have I:=ao t (show b3<_ by omega)
   have J:=ao t (show x.b<_ by omega)
   have e3:=ao t k8
   replace S:=S.call t
   simp only [BS,LB,cls,ac,Nat.reduceLT,Nat.reduceEqDiff,Nat.reduceAdd,Nat.reducePow,Nat.reduceDiv,Nat.reduceMod,Nat.reduceLeDiff,w2]
   refine⟨by simp only [bj,bA,aS,bK,aY,ne_eq,not_false_eq_true,bJ,cb,a9,aX,cu,cR,aO,Nat.reduceLT,Nat.reduceEqDiff,reduceIte,Xj,ab,au I,av I,au J,av J,au e3,av e3],?_⟩
   refine⟨S.gr,?_⟩
   unfold nxB
   rw [j]
   simp only [k]
   rfl
theorem back_ok{h0:Hp}(E:h0.t.Sized h0.n){br u F m:Nat}{x:Sx}{d:Sd}{f:Gra}(G:bL h0 F (ptrTo u) f)(l:Good f){i:Bool}(a:BkAt h0 br (ptrTo u) m i x d)(H:x.vH=.func (.func (mb i)) #[] #[])
 {D:Nat->Prop} (j: ∀v,D v->(d.L v).isSome=true/\ ∀e∈d.P v,e<f.arcs.length) (q: ∀v y w,D v->nxB f.arcs i d.P v=some (y,w)->D w) (I:D m) (p:NxtL (nxB f.arcs i d.P) m (d.P m)) (J:(d.P m).length<=1000):
 Ret zN 122 [ptrTo br,ptrTo x.b] h0 fun r h'=>Gr h0 h'/\eX h' (r,1,(d.P m).flatMap cI)/\ ∀c,ar r c->h0.n<=c:=by
 have S:=Si E
 have s:=a.l10
 refine ae (n:=11) (rs:=[.tmp 4]) rfl Tryz.e122 rfl rfl rfl (lbt rfl) ?_
 simp only [BS,Nat.reduceLT]
 refine ah (cP (by exact dC)) S ?_;clear S;intro h t S z
 simp only [BS,Nat.reduceLT,Nat.reduceEqDiff,if_false]
 refine ah (cP (by exact dC)) S ?_;clear S;intro h A S B
 have k:=S.old s (fun h=>h)
 simp only [BS,LB,Nat.reduceLT,Nat.reduceEqDiff,F0Q,k,S.ld (b:=t) (o:=0) m1 rfl]
 have K:=S.gr.n
 have L:=S.ld (b:=t) (o:=0) m1 rfl
 have e3:=S.ld (b:=A) (o:=0) m0 rfl
 refine step_ret (chain_ok S.ok (g:=204) (post:=#[ptrTo A,ptrTo t]) (nx:=nxB f.arcs i d.P) (D:=D) (fun h' g v C=>back1_ok g.ok (G.gr (S.gr.trans g)) l (a.gr (S.gr.trans g)) H (g.load L) (g.load e3) (j v C).1 (j v C).2) q I p J) ?_
 rintro r Q ⟨M,N,O⟩
 simp only [BS,LB,ac,Nat.reduceLT,Nat.reduceEqDiff]
 exact⟨S.gr.trans M,N,fun c P=>Xa K (O c P)⟩
end Go.Ab
end
section
namespace Go.Ab
section
variable{A:List Arc}{N:Nat}{al:Nat->Bool}{pi:Nat->Int}{σ:Bi}{rt:Bool->Nat}
structure KeB(b:Bool)(σ τ:Bi):Prop where
 O:(τ.sd b).O=(σ.sd b).O
 L: ∀v∈(σ.sd b).O,(τ.sd b).L v=(σ.sd b).L v/\(τ.sd b).P v=(σ.sd b).P v
 ot:τ.sd (!b)=σ.sd (!b)
theorem KeB.refl{b:Bool}:KeB b σ σ:=⟨rfl,fun _ _=>⟨rfl,rfl⟩,rfl⟩
theorem KeB.trans{b:Bool}{τ c:Bi}(h:KeB b σ τ)(g:KeB b τ c):KeB b σ c:=
 ⟨g.O.trans h.O,fun v a=>⟨(g.L v (h.O▸a)).1.trans (h.L v a).1,(g.L v (h.O▸a)).2.trans (h.L v a).2⟩,g.ot.trans h.ot⟩
theorem oq{b:Bool}{v lab:Nat}{p:List Nat}:KeB b σ (bS pi b σ v lab p):=by
 unfold bS
 split
 . exact .refl
 . rename_i a
   simp only [not_or,Decidable.not_not]at a
   refine⟨?_,fun u c=>?_,?_⟩
   . rw [lJ.1]
     show(cG σ.sd b _ b).O=_
     rw [dp];rfl
   . rw [lJ.1]
     show(cG σ.sd b _ b).L u=_/\(cG σ.sd b _ b).P u=_
     rw [dp]
     have e:u≠v:=fun e=>a.1 (e▸c)
     exact⟨if_neg e,if_neg e⟩
   . rw [lJ.1]
     exact j8
theorem evB_I{e:Ev2}(h:BiI A N rt al pi σ):BiI A N rt al pi (evB σ e):=⟨h.sv,h.dm,h.le⟩
def m8(σ:Bi)(b:Bool)(v m:Nat):Prop:=v∈(σ.sd b).O/\(σ.sd b).L v=some m/\m+bT<=(σ.sd b).O.length*bT/\((σ.sd b).P v).length+1<=(σ.sd b).O.length
theorem m8.ke{b:Bool}{τ:Bi}{v m:Nat}(r:m8 σ b v m)(k:KeB b σ τ):m8 τ b v m:=by
 obtain⟨a,c,d,e⟩:=r
 exact⟨by rw [k.O];exact a,by rw [(k.L v a).1];exact c,by rw [k.O];exact d,by rw [k.O,(k.L v a).2];exact e⟩
theorem sU{b:Bool}{v m a:Nat}(k:N<=12)(l: ∀a∈A,a.s<N/\a.t<N/\a.w<=bT)(h:BiI A N rt al pi σ)(r:m8 σ b v m)(d:a<A.length)(e:fsB b (A.getD a default)=v):
 BiI A N rt al pi (c7 A al pi b v σ a)/\KeB b σ (c7 A al pi b v σ a):=by
 unfold c7
 split
 . rename_i f
   obtain⟨n,j,s,o⟩:=r
   have q:A.getD a default∈A:=by rw [Xb,Xv d];exact Xq d
   obtain⟨t,u,w⟩:=l _ q
   have c:jU σ b v=m:=by unfold jU;rw [j];rfl
   have g:ftB b (A.getD a default)<N:=by unfold ftB;split<;>assumption
   have i:=oq (pi:=pi) (σ:=evB σ ⟨1,b,a,0⟩) (b:=b) (v:=ftB b (A.getD a default)) (lab:=jU σ b v+(A.getD a default).w) (p:=a::(σ.sd b).P v)
   refine⟨(evB_I h).reach k g ?_ ?_ (.inr ⟨a,m,d,f,rfl,?_,?_,?_,?_⟩),⟨i.O,i.L,i.ot⟩⟩
   . show jU σ b v+_<=(σ.sd b).O.length*bT
     omega
   . show((σ.sd b).P v).length+1<=(σ.sd b).O.length
     exact o
   . rw [e];exact n
   . rw [e];rfl
   . rw [e];exact j
   . rw [c]
 . exact⟨h,.refl⟩
theorem xQ{b:Bool}{v m:Nat}(d:N<=12)(e: ∀a∈A,a.s<N/\a.t<N/\a.w<=bT): ∀(l:List Nat) {σ:Bi},BiI A N rt al pi σ->m8 σ b v m->(∀a∈l,a<A.length/\fsB b (A.getD a default)=v)->
 BiI A N rt al pi (l.foldl (c7 A al pi b v) σ)/\KeB b σ (l.foldl (c7 A al pi b v) σ)
 | [],_,h,_,_=>⟨h,.refl⟩
 | a::l,σ,h,r,c=>by
   obtain⟨g,f⟩:=sU d e h r (c a XF).1 (c a XF).2
   obtain⟨i,j⟩:=xQ d e l g (r.ke f) (fun x k=>c x (Xw _ k))
   exact⟨i,f.trans j⟩
theorem wJ{b:Bool}{v:Nat}{k:Int}(h:BiI A N rt al pi σ)(E:(σ.sd b).K v=some k):BiI A N rt al pi (bQ σ b v)/\ ∃m,m8 (bQ σ b v) b v m/\(σ.sd b).L v=some m/\k=2*(m:Int)+qB pi b v/\v∉(σ.sd b).O:=by
 have c:=h.sv b
 obtain⟨B,m,g,t⟩:=c.op v k E
 obtain⟨F,O,P,Q,R⟩:=c.lab v m g
 have n: ∀i u,((bQ σ b v).sd i).L u=(σ.sd i).L u:=fun i u=>by
  show(cG σ.sd b _ i).L u=_
  by_cases e:i=b
  . subst e;rw [dp]
  . rw [uA e]
 refine⟨⟨fun i=>?_,?_,fun i u x y f o=>?_⟩,m,⟨?_,by rw [n];exact g,?_,?_⟩,g,t,B⟩
 . show SvB A N (rt i) al pi i (cG σ.sd b _ i)
   by_cases e:i=b
   . subst e
     rw [dp]
     have G:((σ.sd i).O++[v]).length*bT=(σ.sd i).O.length*bT+bT:=by rw [Xs,Xt,Yc]
     refine⟨?_,fun u p=>?_,fun u j s=>?_,fun u l w=>?_,fun u l w=>?_⟩
     . rw [List.nodup_append]
       exact⟨c.nd,by simp,fun x f y o e=>by simp at o;subst o;subst e;exact B f⟩
     . rcases List.mem_append.1 p with p|p
       . exact c.lt u p
       . rw [List.mem_singleton.1 p];exact⟨F,by show(σ.sd i).L v≠none;rw [g];nofun⟩
     . by_cases e:u=v
       . subst e;simp [ct]at s
       . have s:(σ.sd i).K u=some j:=by simpa [ct,e]using s
         obtain⟨q,r⟩:=c.op u j s
         exact⟨fun g=>(List.mem_append.1 g).elim q (fun h=>e (List.mem_singleton.1 h)),r⟩
     . obtain⟨q,r,C,D,z⟩:=c.lab u l w
       refine⟨q,r,by show l<=((σ.sd i).O++[v]).length*bT;omega,by show((σ.sd i).P u).length<=((σ.sd i).O++[v]).length;rw [Xs];omega,?_⟩
       by_cases e:u=v
       . exact .inl (Xc _ (List.mem_singleton.2 e))
       . exact z.imp (fun h=>zM _ h) (fun h=>by simpa [ct,e]using h)
     . rcases c.path u l w with H|⟨a,j,q,r,C,D,z⟩
       . exact .inl H
       . exact .inr ⟨a,j,q,r,C,zM _ D,z⟩
   . rw [uA e];exact h.sv i
 . rcases h.dm with⟨I,J⟩|d
   . exact .inl ⟨I,fun i u x f=>by rw [n]at f⊢;exact J i u x f⟩
   . exact .inr fun i=>by
      obtain⟨x,y,K,L,M⟩:=d i
      exact⟨x,y,by rw [n];exact K,by rw [n];exact L,M⟩
 . rw [n]at f o;exact h.le i u x y f o
 . show v∈(cG σ.sd b _ b).O
   rw [dp]
   exact Xc _ (List.mem_singleton.2 rfl)
 . show m+bT<=(cG σ.sd b _ b).O.length*bT
   rw [dp]
   show m+bT<=((σ.sd b).O++[v]).length*bT
   rw [Xs,Xt,Yc];omega
 . show((cG σ.sd b _ b).P v).length+1<=(cG σ.sd b _ b).O.length
   rw [dp]
   show((σ.sd b).P v).length+1<=((σ.sd b).O++[v]).length
   rw [Xs,Xt];omega
theorem vW{b:Bool}{a v:Nat}:a∈outs A (fsB b) A.length v↔a<A.length/\fsB b (A.getD a default)=v:=jV
theorem stepB_I{b:Bool}{v:Nat}{k:Int}(c:N<=12)(d: ∀a∈A,a.s<N/\a.t<N/\a.w<=bT)(h:BiI A N rt al pi σ)(e:(σ.sd b).K v=some k):
 BiI A N rt al pi (iS A al pi b v (bQ σ b v))/\KeB b (bQ σ b v) (iS A al pi b v (bQ σ b v)):=by
 obtain⟨f,m,r,_⟩:=wJ h e
 exact xQ c d _ f r (fun a g=>vW.1 g)

def InB(A:List Arc)(al:Nat->Bool)(pi:Nat->Int)(a:Nat):Prop:=al a=true/\OpB pi (A.getD a default).s/\OpB pi (A.getD a default).t
instance (a:Nat):Decidable (InB A al pi a):=by unfold InB;infer_instance
def hB(A:List Arc)(al:Nat->Bool)(pi:Nat->Int)(b:Bool):List Arc:=((Xg A.length).filter fun a=>decide (InB A al pi a)).map fun a=>⟨fsB b (A.getD a default),ftB b (A.getD a default),(A.getD a default).w⟩
theorem mem_hB{b:Bool}{a:Arc}:a∈hB A al pi b↔ ∃i,i<A.length/\InB A al pi i/\(⟨fsB b (A.getD i default),ftB b (A.getD i default),(A.getD i default).w⟩:Arc)=a:=by
 unfold hB
 simp only [List.mem_map,List.mem_filter,List.mem_range,decide_eq_true_eq]
 constructor
 . rintro⟨i,⟨c,d⟩,e⟩;exact⟨i,c,d,e⟩
 . rintro⟨i,c,d,e⟩;exact⟨i,⟨c,d⟩,e⟩
def FeasB(A:List Arc)(al:Nat->Bool)(pi:Nat->Int):Prop:= ∀i,i<A.length->InB A al pi i->pi (A.getD i default).s<=2*(A.getD i default).w+pi (A.getD i default).t
theorem FeasB.q(h:FeasB A al pi){i:Nat}(a:i<A.length)(c:InB A al pi i)(b:Bool):qB pi b (fsB b (A.getD i default))<=2*(A.getD i default).w+qB pi b (ftB b (A.getD i default)):=by
 have:=h i a c
 cases b
 . exact this
 . show-pi (A.getD i default).t<=2*((A.getD i default).w:Int)+ -pi (A.getD i default).s
   omega
structure FeB(A:List Arc)(r:Nat)(al:Nat->Bool)(pi:Nat->Int)(b:Bool)(x:Sd)(ex:Nat->Prop):Prop where
 opt: ∀v∈x.O,∀l w,x.L v=some l->Wk (hB A al pi b) r v w->l<=w
 fr: ∀a,a<A.length->InB A al pi a->fsB b (A.getD a default)∈x.O-> ¬ex a-> ∃l m,x.L (fsB b (A.getD a default))=some m/\x.L (ftB b (A.getD a default))=some l/\l<=m+(A.getD a default).w
 st:x.L r=some 0
theorem SvB.wk{r:Nat}{b:Bool}{x:Sd}(h:SvB A N r al pi b x): ∀(n:Nat) {v l:Nat},(x.P v).length<=n->x.L v=some l->Wk (hB A al pi b) r v l:=by
 intro n
 induction n with
 | zero=>
   intro v l c d
   rcases h.path v l d with⟨rfl,_,rfl⟩|⟨a,m,_,_,_,_,e,_⟩
   . exact .nil
   . rw [e]at c;simp at c
 | succ n k=>
   intro v l c d
   rcases h.path v l d with⟨rfl,_,rfl⟩|⟨a,m,o,p,g,u,e,i,q⟩
   . exact .nil
   . rw [e]at c
     have s:=k (v:=fsB b (A.getD a default)) (l:=m) (by rw [XS]at c;omega) i
     have j:=(h.lab _ _ d).2.1
     have t:=(h.lab _ _ i).2.1
     have f:InB A al pi a:=by
      refine⟨p,?_,?_⟩<;>cases b<;>first|exact t|(rw [<-g]at j;exact j)
     exact s.snoc' (mem_hB.2 ⟨a,o,f,rfl⟩) rfl g q
theorem FeB.front{r:Nat}{b:Bool}{x:Sd}(f:FeB A r al pi b x (fun _=>False))(h:SvB A N r al pi b x)(u:FeasB A al pi){v w:Nat}(k:Wk (hB A al pi b) r v w):
 (v∈x.O/\ ∃l,x.L v=some l/\l<=w)\/ ∃y j,x.K y=some j/\j<=2*(w:Int)+qB pi b v:=by
 induction k with
 | nil =>
   rcases(h.lab r 0 f.st).2.2.2.2 with c|c
   . exact .inl ⟨c,0,f.st,Xk _⟩
   . cases d:x.K r with
     |none=>exact absurd d c
     | some j=>
       obtain⟨_,l,g,z⟩:=h.op r j d
       rw [f.st]at g;cases g
       exact .inr ⟨r,j,d,by omega⟩
 | @snoc w a B G C=>
   obtain⟨i,q,n,rfl⟩:=mem_hB.1 B
   have H:=u.q q n b
   rcases C with⟨D,E,p,hle⟩|⟨y,j,c,s⟩
   . obtain⟨l,m,t,g,F⟩:=f.fr i q n D (fun h=>h)
     have e:m=E:=by rw [show x.L (fsB b (A.getD i default))=_ from p]at t;cases t;rfl
     subst e
     rcases(h.lab _ l g).2.2.2.2 with c|c
     . exact .inl ⟨c,l,g,by show l<=w+(A.getD i default).w;omega⟩
     . cases d:x.K (ftB b (A.getD i default))with
       |none=>exact absurd d c
       | some j=>
         obtain⟨_,I,o,z⟩:=h.op _ j d
         rw [g]at o;cases o
         refine .inr ⟨_,j,d,?_⟩
         show j<=2*((w+(A.getD i default).w:Nat):Int)+qB pi b (ftB b (A.getD i default))
         omega
   . refine .inr ⟨y,j,c,?_⟩
     have s:j<=2*(w:Int)+qB pi b (fsB b (A.getD i default)):=s
     show j<=2*((w+(A.getD i default).w:Nat):Int)+qB pi b (ftB b (A.getD i default))
     omega
theorem FeB.key{r:Nat}{b:Bool}{x:Sd}(f:FeB A r al pi b x (fun _=>False))(h:SvB A N r al pi b x)(c:FeasB A al pi){v:Nat}{k:Int}(d:iH x.K v k){u w:Nat}(e:u∉x.O)(g:Wk (hB A al pi b) r u w):k<=2*(w:Int)+qB pi b u:=by
 rcases f.front h c g with a|⟨y,j,a,i⟩
 . exact absurd a.1 e
 . have:=d.2 y j a
   omega
end
end Go.Ab

end
section
namespace Go.Ab
inductive PathA(A:List Arc)(s:Nat):List Nat->Nat->Nat->Prop where
 |nil:PathA A s [] s 0
 |snoc {l:List Nat} {w a:Nat}:PathA A s l (A.getD a default).s w->a<A.length->PathA A s (l++[a]) (A.getD a default).t (w+(A.getD a default).w)
def endA(A:List Arc)(s:Nat)(l:List Nat)(i:Nat):Nat:=if i=0 then s else(A.getD (l.getD (i-1) 0) default).t
def sumA(A:List Arc)(l:List Nat)(k:Nat):Nat:=((l.take k).map fun a=>(A.getD a default).w).sum
theorem rX{l:List Nat}{a i:Nat}(h:i<l.length):(l++[a]).getD i 0=l.getD i 0:=by
 rw [Xb,Xb,List.getElem?_append_left h]
theorem sa{l:List Nat}{a:Nat}:(l++[a]).getD l.length 0=a:=by simp [Xb]
theorem xN{A:List Arc}{s a i:Nat}{l:List Nat}(h:i<=l.length):endA A s (l++[a]) i=endA A s l i:=by
 unfold endA
 split
 . rfl
 . rw [rX (by omega)]
theorem PathA.at{A:List Arc}{s t w:Nat}{l:List Nat}(h:PathA A s l t w):(∀i,i<l.length->l.getD i 0<A.length/\(A.getD (l.getD i 0) default).s=endA A s l i)/\endA A s l l.length=t/\sumA A l l.length=w:=by
 induction h with
 |nil=>exact⟨fun i c=>absurd c (Nat.not_lt_zero _),rfl,rfl⟩
 | @snoc l w a _ d e=>
   obtain⟨f,g,b⟩:=e
   have j:(l++[a]).length=l.length+1:=by simp
   refine⟨fun i c=>?_,?_,?_⟩
   . rcases Nat.lt_or_ge i l.length with h|h
     . rw [rX h,xN (Nat.le_of_lt h)];exact f i h
     . have:i=l.length:=by omega
       subst this
       rw [sa,xN (Xk _)]
       exact⟨d,g.symm⟩
   . rw [j]
     unfold endA
     rw [if_neg (by omega),Nat.add_sub_cancel,sa]
   . unfold sumA at b⊢
     rw [List.take_length]at b⊢
     rw [List.map_append,List.sum_append,b]
     rfl
end Go.Ab

end
section
namespace Go.Ab
section
variable{A:List Arc}{N:Nat}{al:Nat->Bool}{pi:Nat->Int}{σ:Bi}{rt:Bool->Nat}
theorem clo_b{b:Bool}{v:Nat}:(bQ σ b v).sd b=⟨ct (σ.sd b).K v none,(σ.sd b).L,(σ.sd b).P,(σ.sd b).O++[v]⟩:=dp
theorem clo_n{b:Bool}{v:Nat}:(bQ σ b v).sd (!b)=σ.sd (!b):=j8
theorem FeB.close{r b v}{k:Int}(f:FeB A r al pi b (σ.sd b) (fun _=>False))(h:SvB A N r al pi b (σ.sd b))(o:FeasB A al pi)(j:iH (σ.sd b).K v k):FeB A r al pi b ((bQ σ b v).sd b) (fun a=>fsB b (A.getD a default)=v):=by
 obtain⟨p,m,q,y⟩:=h.op v k j.1
 rw [clo_b]
 refine⟨fun u c l w g n=>?_,fun a s i d t=>?_,f.st⟩
 . rcases List.mem_append.1 c with c|c
   . exact f.opt u c l w g n
   . have e:=List.mem_singleton.1 c
     subst e
     have x:l=m:=by rw [show(σ.sd b).L u=_ from q]at g;cases g;rfl
     subst x
     have:=f.key h o j p n
     omega
 . rcases List.mem_append.1 d with d|d
   . exact f.fr a s i d (fun h=>h)
   . exact absurd (List.mem_singleton.1 d) t
theorem reach_L{b:Bool}{v lab:Nat}{p:List Nat}:(∀u,u≠v->((bS pi b σ v lab p).sd b).L u=(σ.sd b).L u)/\(v∉(σ.sd b).O->OpB pi v-> ∃l,((bS pi b σ v lab p).sd b).L v=some l/\l<=lab/\ ∀l',(σ.sd b).L v=some l'->l<=l')/\
 ((((bS pi b σ v lab p).sd b).L v=(σ.sd b).L v)\/(∀l',(σ.sd b).L v=some l'->lab<l')):=by
 unfold bS
 split
 . rename_i c
   refine⟨fun _ _=>rfl,fun g i=>?_,.inl rfl⟩
   rcases c with h|h|h
   . exact absurd h g
   . exact absurd i h
   . cases d:(σ.sd b).L v with
     |none=>rw [d]at h;cases h
     |some l=>rw [d]at h;exact⟨l,rfl,of_decide_eq_true h,fun l' a=>by cases a;exact Xk _⟩
 . rename_i c
   simp only [not_or,Decidable.not_not]at c
   have e:(mT ((σ.sd (!b)).L v) ⟨cG σ.sd b (dq pi (σ.sd b) b v lab p),σ.ev,σ.dist,σ.meet⟩ v lab).sd b=dq pi (σ.sd b) b v lab p:=by
    rw [lJ.1];exact dp
   have f: ∀l',(σ.sd b).L v=some l'->lab<l':=fun l' a=>by
    have:=c.2.2
    rw [a]at this
    simp only [leO,decide_eq_true_eq]at this
    omega
   rw [e]
   exact⟨fun u j=>if_neg j,fun _ _=>⟨lab,if_pos rfl,Xk _,fun l' a=>Nat.le_of_lt (f l' a)⟩,.inr f⟩
theorem FeB.scan1 {r v m a:Nat} {b:Bool} {O ex':Nat->Prop} (f:FeB A r al pi b (σ.sd b) O) (h:SvB A N r al pi b (σ.sd b)) (T:m8 σ b v m) (U:a<A.length) (D:fsB b (A.getD a default)=v) (P: ∀c,¬ex' c-> ¬O c\/c=a):
 FeB A r al pi b ((c7 A al pi b v σ a).sd b) ex':=by
 obtain⟨X,z,_⟩:=T
 have o:jU σ b v=m:=by unfold jU;rw [z];rfl
 unfold c7
 split
 . rename_i q
   have s:(evB σ ⟨1,b,a,0⟩).sd b=σ.sd b:=rfl
   obtain⟨E,F,k⟩:=reach_L (pi:=pi) (σ:=evB σ ⟨1,b,a,0⟩) (b:=b) (v:=ftB b (A.getD a default)) (lab:=jU σ b v+(A.getD a default).w) (p:=a::(σ.sd b).P v)
   have G:=oq (pi:=pi) (σ:=evB σ ⟨1,b,a,0⟩) (b:=b) (v:=ftB b (A.getD a default)) (lab:=jU σ b v+(A.getD a default).w) (p:=a::(σ.sd b).P v)
   generalize bS pi b (evB σ ⟨1,b,a,0⟩) (ftB b (A.getD a default)) (jU σ b v+(A.getD a default).w) (a::(σ.sd b).P v)=Q at E F k G
   have R:(Q.sd b).O=(σ.sd b).O:=G.O
   have B: ∀u∈(σ.sd b).O,(Q.sd b).L u=(σ.sd b).L u:=fun u t=>(G.L u t).1
   refine⟨fun u t l w n V=>?_,fun c H d x g=>?_,?_⟩
   . rw [R]at t
     rw [B u t]at n
     exact f.opt u t l w n V
   . rw [R]at x
     rw [B _ x]
     rcases P c g with i|e
     . obtain⟨l,I,J,y,e3⟩:=f.fr c H d x i
       by_cases e:ftB b (A.getD c default)=ftB b (A.getD a default)
       . by_cases j:ftB b (A.getD a default)∈(σ.sd b).O
         . exact⟨l,I,J,by rw [B _ (e▸j)];exact y,e3⟩
         . have C:=(h.lab _ l y).2.1
           rw [e]at C y
           obtain⟨K,L,_,W⟩:=F j C
           have:=W l y
           exact⟨K,I,J,by rw [e];exact L,by omega⟩
       . exact⟨l,I,J,by rw [E _ e];exact y,e3⟩
     . subst e
       have C:OpB pi (ftB b (A.getD c default)):=by
        cases b with
        |false=>exact d.2.2
        |true=>exact d.2.1
       by_cases j:ftB b (A.getD c default)∈(σ.sd b).O
       . obtain⟨_,M⟩:=h.lt _ j
         cases n:(σ.sd b).L (ftB b (A.getD c default))with
         |none=>exact absurd n M
         | some l=>
           refine⟨l,m,by rw [D];exact z,by rw [B _ j];exact n,f.opt _ j l _ n ?_⟩
           exact(h.wk _ (Xk _) z).snoc' (mem_hB.2 ⟨c,U,d,rfl⟩) D rfl rfl
       . obtain⟨K,L,S,_⟩:=F j C
         exact⟨K,m,by rw [D];exact z,L,by rw [o]at S;exact S⟩
   . by_cases e:r=ftB b (A.getD a default)
     . rcases k with k|k
       . rw [e,k,s,<-e];exact f.st
       . have:=k 0 (by rw [s,<-e];exact f.st)
         omega
     . rw [E r e];exact f.st
 . rename_i q
   refine⟨f.opt,fun c H d x g=>?_,f.st⟩
   rcases P c g with i|e
   . exact f.fr c H d x i
   . subst e;exact absurd d.1 q
theorem FeB.scanL{r v m:Nat}{b:Bool}(j:N<=12)(k: ∀a∈A,a.s<N/\a.t<N/\a.w<=bT)(n:r=rt b): ∀(l:List Nat) {σ:Bi},FeB A r al pi b (σ.sd b) (· ∈l)->BiI A N rt al pi σ->m8 σ b v m->(∀a∈l,a<A.length/\fsB b (A.getD a default)=v)->
 FeB A r al pi b ((l.foldl (c7 A al pi b v) σ).sd b) (fun _=>False)
 | [],_,f,_,_,_=>⟨f.opt,fun a d g q _=>f.fr a d g q (by simp),f.st⟩
 | a::l,σ,f,h,i,o=>by
   obtain⟨d,p⟩:=o a XF
   have s:=FeB.scan1 (ex':=(· ∈l)) f (by rw [n];exact h.sv b) i d p (fun c t=>by
    by_cases e:c=a
    . exact .inr e
    . exact .inl (fun u=>(List.mem_cons.1 u).elim e t))
   obtain⟨w,y⟩:=sU j k h i d p
   exact FeB.scanL j k n l s w (i.ke y) (fun x z=>o x (Xw _ z))
end
end Go.Ab

end
section
namespace Go.Ab
def rtB(s t:Nat)(i:Bool):Nat:=if i then t else s
def arcsB(σ:Bi):List Nat:=((σ.sd false).P σ.meet).reverse++(σ.sd true).P σ.meet
section
variable{A:List Arc}{N s t:Nat}{al:Nat->Bool}{pi:Nat->Int}{σ:Bi}
theorem uy:BiI A N (rtB s t) al pi ⟨fun _=>fm,[],FAR,0⟩:=
 ⟨fun i=>⟨.nil,fun v c=>(by cases c),fun v k d=>(by cases d),fun v l a=>(by cases a),fun v l a=>(by cases a)⟩,.inl ⟨rfl,fun i v x b=>rfl⟩,fun i v x y b=>(by cases b)⟩
theorem initB_I(a:N<=12)(c:s<N)(d:t<N):BiI A N (rtB s t) al pi (kC pi s t):=
 (uy.reach (b:=false) (p:=[]) (lab:=0) a c (Xz _) (Xz _) (.inl ⟨rfl,rfl,rfl⟩)).reach (b:=true) (p:=[]) (lab:=0) a d (Xz _) (Xz _) (.inl ⟨rfl,rfl,rfl⟩)
theorem initB_O(i:Bool):((kC pi s t).sd i).O=[]:=by
 have a:=oq (pi:=pi) (σ:=⟨fun _=>fm,[],FAR,0⟩) (b:=false) (v:=s) (lab:=0) (p:=[])
 have c:=oq (pi:=pi) (σ:=bS pi false ⟨fun _=>fm,[],FAR,0⟩ s 0 []) (b:=true) (v:=t) (lab:=0) (p:=[])
 cases i
 . have:=c.ot
   show((bS pi true _ t 0 []).sd (!true)).O=[]
   rw [this]
   exact a.O
 . exact c.O.trans (by rw [show(true:Bool)=(!false)from rfl,a.ot];rfl)
theorem initB_ev:(kC pi s t).ev=[]:=by
 have e: ∀{b:Bool} {σ:Bi} {v a:Nat} {p:List Nat},(bS pi b σ v a p).ev=σ.ev:=by
  intro b σ v a p
  unfold bS
  split
  . rfl
  . exact lJ.2
 unfold kC
 rw [e,e]
def EvP(A:List Arc)(a:Bool->Nat)(al:Nat->Bool)(pi:Nat->Int)(l:List Ev2):Prop:= ∀e∈l,e.kind=0->Wk (hB A al pi e.side) (a e.side) e.id e.lab/\ ∀w,Wk (hB A al pi e.side) (a e.side) e.id w->e.lab<=w
theorem vr{b:Bool}{v lab:Nat}{p:List Nat}:(bS pi b σ v lab p).ev=σ.ev:=by
 unfold bS
 split
 . rfl
 . exact lJ.2
theorem EvP.scan1{f:Bool->Nat}{b:Bool}{v a:Nat}(h:EvP A f al pi σ.ev):EvP A f al pi (c7 A al pi b v σ a).ev:=by
 unfold c7
 split
 . rw [vr]
   intro e c d
   rcases List.mem_append.1 c with c|c
   . exact h e c d
   . rw [List.mem_singleton.1 c]at d;cases d
 . exact h
theorem EvP.scanL{a:Bool->Nat}{b:Bool}{v:Nat}: ∀(l:List Nat) {σ:Bi},EvP A a al pi σ.ev->EvP A a al pi (l.foldl (c7 A al pi b v) σ).ev
 | [],_,h=>h
 |_::l,_,h=>EvP.scanL l h.scan1
end
end Go.Ab

end
section
namespace Go.Ab
open Go.Proofs
set_option maxRecDepth 10000
theorem BiI.distLe{A:List Arc}{N:Nat}{b:Bool->Nat}{al:Nat->Bool}{pi:Nat->Int}{σ:Bi}(h:BiI A N b al pi σ)(a:N<=12):σ.dist<=FAR:=by
 have g:=jm
 have i:=j9
 rcases h.dm with⟨e,_⟩|c
 . omega
 . obtain⟨x,y,d,f,e3⟩:=c false
   have j:=((h.sv false).lab _ x d).2.2.1
   have k:=((h.sv (!false)).lab _ y f).2.2.1
   have l:=Xx bT (Xa (h.sv false).len a)
   have m:=Xx bT (Xa (h.sv (!false)).len a)
   omega
theorem SvB.has{A:List Arc}{N r:Nat}{al:Nat->Bool}{pi:Nat->Int}{i:Bool}{x:Sd}(h:SvB A N r al pi i x){v l:Nat}(a:x.L v=some l)(c:v∉x.O):x.K v=some (2*(l:Int)+qB pi i v):=by
 have d:=((h.lab v l a).2.2.2.2).resolve_left c
 cases b:x.K v with
 |none=>exact absurd b d
 | some k=>
   obtain⟨_,g,e,f⟩:=h.op v k b
   rw [a]at e
   cases e
   rw [f]
theorem SvB.hasNo{A:List Arc}{N r:Nat}{al:Nat->Bool}{pi:Nat->Int}{i:Bool}{x:Sd}(h:SvB A N r al pi i x){v:Nat}(a:x.L v=none):x.K v=none:=by
 cases b:x.K v with
 |none=>rfl
 | some k=>
   obtain⟨_,c,e,d⟩:=h.op v k b
   rw [a]at e
   cases e
theorem p6{h0:Hp}(g:h0.t.Sized h0.n){br:Nat}{pn:Value}{s t:Nat}{vPi:Value}{b:List Int}{X:Bool->Sx}{F:Bool->List Nat}{vE:Value}{N:Nat}{σ:Bi}(a:dL h0 br pn s t vPi X F vE N σ)
 (k:az h0 1 (encI .i64) vPi b) (m:b.length=N) (n: ∀c,ar vPi c->c∉boB br pn s t vPi X F vE σ) (e:N<=12) {A:List Arc} {o:Bool->Nat} {al:Nat->Bool} (I:BiI A N o al (fun v=>b.getD v 0) σ) {i:Bool} {v lab:Nat} {p:List Nat} (q:v<N) (f:lab<=13*bT):
 Ret zN 119 [ptrTo br,ptrTo (X i).b,.int .i64 (v:Nat),.int .i64 (byI p),.int .i64 (lab:Nat)] h0 fun _ h'=>Mo (· ∈boB br pn s t vPi X F vE σ) h0 h'/\ ∃d F',dL h' br pn s t vPi d F' vE N (bS (fun v=>b.getD v 0) i σ v lab p)/\(∀j,(d j).b=(X j).b/\(d j).vA=(X j).vA/\(d j).vH=(X j).vH)/\ ∀c∈boB br pn s t vPi d F' vE (bS (fun v=>b.getD v 0) i σ v lab p),c∈boB br pn s t vPi X F vE σ\/h0.n<=c:=
 breach_ok g a k m n e q f (I.distLe e) (fun j u l r=>by
  have x:=((I.sv j).lab u l r).2.2.1
  have y:=Xx bT (Xa (I.sv j).len e)
  have z:=j9
  omega) (fun l f w=>(I.sv i).has f w) (fun h=>(I.sv i).hasNo h)
def Tryz.Fg:=aj t1<|aj t2<|aj t3<|aj t4<|aj t5<|aj t6<|aj Z3<|aj Z5<|aj t9<|aj t10<|aj t24<|aj Z0<|aj t32<|aj t33<|aj t48<|aj t58<|aj t74<|aj Z13<|aj Z2<|aj Z8<|aj Z9<|aj t189<|aj Z1<|aj t192<|aj t199<|aj t200<|aj t201<|aj Z12<|aj t218<|aj t275<|aj t277<|aj Z16<|aj Z6<|Z7
theorem note_look{ρ:Operand->Value}{b a:Bool}{t:TypeId}{m k:Operand}{h h':Hp}:bU ρ b (.lookup t m k a) h h'=(match ρ m with| .map (some r)=>some (.blk r)|_=>none):=by
 simp only [bU,dk,iA,dQ,touch,cond_false]
 cases ρ m<;>first|rfl|(rename_i x;cases x<;>rfl)
theorem s9{A:List Arc}{al:Nat->Bool}{pi:Nat->Int}{b:Bool}{v:Nat}: ∀(l:List Nat) {σ:Bi},(l.foldl (c7 A al pi b v) σ).ev.length<=σ.ev.length+l.length
 | [],_=>Xk _
 | a::l,σ=>by
   have h:=s9 (A:=A) (al:=al) (pi:=pi) (b:=b) (v:=v) l (σ:=c7 A al pi b v σ a)
   have c:(c7 A al pi b v σ a).ev.length<=σ.ev.length+1:=by
    unfold c7
    split
    . rw [vr]
      simp [evB]
    . omega
   rw [List.foldl_cons,XS]
   omega
theorem qF: ∀e:Ev2,(ig e).length=4:=fun _=>rfl
def outF(i:Bool):FuncId:=if i then 117 else 115
theorem outF_ok{h0:Hp}(d:h0.t.Sized h0.n){p:Value}{a:Gra}{f:Nat}(c:bL h0 f p a)(b:a.arcs.length<1000){i:Bool}{v:Nat}(e:v<a.nodes):Ret zN (outF i) [p,.int .i64 v] h0 fun r h'=>Gr h0 h'/\az h' 1 cI r (outs a.arcs (fsB i) a.arcs.length v)/\ ∀c,ar r c->h0.n<=c:=by
 cases i
 . exact vt d c b e
 . exact yg d c b e
theorem dL.lt{h:Hp}(b:h.t.Sized h.n){br:Nat}{pn:Value}{s t:Nat}{vPi:Value}{X:Bool->Sx}{F:Bool->List Nat}{vE:Value}{N:Nat}{σ:Bi}(a:dL h br pn s t vPi X F vE N σ): ∀c∈boB br pn s t vPi X F vE σ,c<h.n:=fun c d=>
 (List.mem_append.1 d).elim (fun h=>(a.st b false).key_lt h) (fun h=>(List.mem_append.1 h).elim (fun h=>(a.heap false).lt b c h) (fun h=>(a.heap true).lt b c h))
theorem bo_fin{h0 h':Hp}{br:Nat}{pn:Value}{s t:Nat}{vPi:Value}{X:Bool->Sx}{F:Bool->List Nat}{vE:Value}{N:Nat}{σ:Bi}(a:dL h0 br pn s t vPi X F vE N σ){i:Bool}{x2:Sx}(e:x2.b=(X i).b/\x2.vA=(X i).vA/\x2.vH=(X i).vH){τ:Bi}{y:Sd}(k:τ.sd=cG σ.sd i y){vE2:Value}{F6:List Nat}
 (S:St (· ∈boB br pn s t vPi X F vE σ) h0 h' ((br,.row (eH pn s t vPi X vE2 τ) 1)::(x2.L i++(X (!i)).L (!i))) (boG vE2 τ)) (z:bC h' F6 (ptrTo x2.p) N y.K) (v:bC h' (F (!i)) (ptrTo (X (!i)).p) N (σ.sd (!i)).K) (w:x2.Ok y)
 (x: ∀c∈F6,c∈F i\/h0.n<=c) (l: ∀c∈F6,c∉keys ((br,Ob.row (eH pn s t vPi X vE2 τ) 1)::(x2.L i++(X (!i)).L (!i))) (boG vE2 τ)/\c∉F (!i)) (n: ∀c∈F (!i),c∉keys ((br,Ob.row (eH pn s t vPi X vE2 τ) 1)::(x2.L i++(X (!i)).L (!i))) (boG vE2 τ)):
 ∃f F',dL h' br pn s t vPi f F' vE2 N τ/\(∀j,(f j).b=(X j).b/\(f j).vA=(X j).vA/\(f j).vH=(X j).vH)/\ ∀c∈boB br pn s t vPi f F' vE2 τ,c∈boB br pn s t vPi X F vE σ\/h0.n<=c:=by
 have g: ∀j:Bool,j≠i->j= !i:=fun j h=>pN h
 have o:(!i)≠i:=not_ne
 let f:Bool->Sx:=fun j=>if j=i then x2 else X j
 let F':Bool->List Nat:=fun j=>if j=i then F6 else F j
 have p:f i=x2:=if_pos rfl
 have q:f (!i)=X (!i):=if_neg o
 have r:F' i=F6:=if_pos rfl
 have u:F' (!i)=F (!i):=if_neg o
 have m: ∀j,(f j).b=(X j).b/\(f j).vA=(X j).vA/\(f j).vH=(X j).vH:=fun j=>by
  by_cases d:j=i
  . subst d;rw [p];exact e
  . rw [g j d,q];exact⟨rfl,rfl,rfl⟩
 have A:boL i br pn s t vPi f vE2 τ=(br,.row (eH pn s t vPi X vE2 τ) 1)::(x2.L i++(X (!i)).L (!i)):=by
  simp only [boL,eH,p,q,(m false).1,(m true).1]
 rw [<-A]at S l n
 refine⟨f,F',dL.of i S (fun j=>?_) (fun j=>?_) (fun j c b=>?_),m,fun c b=>?_⟩
 . by_cases d:j=i
   . subst d
     rw [r,p,k,dp]
     exact z
   . rw [g j d,u,q,k,j8]
     exact v
 . by_cases d:j=i
   . subst d
     rw [p,k,dp]
     exact w
   . rw [g j d,q,k,j8]
     exact a.ok _
 . by_cases d:j=i
   . subst d
     rw [r]at b
     rw [u]
     exact l c b
   . rw [g j d]at b⊢
     rw [u]at b
     rw [XT,r]
     exact⟨n c b,fun B=>(l c B).2 b⟩
 . have hB: ∀j,∀c∈F' j,c∈boB br pn s t vPi X F vE σ\/h0.n<=c:=fun j c b=>by
    by_cases d:j=i
    . subst d
      rw [r]at b
      exact(x c b).elim (fun h=>.inl (nN h)) .inr
    . rw [g j d,u]at b
      exact .inl (nN b)
   rcases List.mem_append.1 b with b|b
   . refine(S.key_own ?_).symm
     unfold keys at b⊢
     rcases List.mem_append.1 b with h|h
     . exact zM _ (((lz i).map _).mem_iff.2 h)
     . exact Xc _ h
   . rcases List.mem_append.1 b with b|b
     . exact hB _ c b
     . exact hB _ c b
theorem bstep_ok {hq h0:Hp} (gq:Gr hq h0) {br C nb:Nat} {s t:Nat} {vPi:Value} {f:List Int} {X:Bool->Sx} {F:Bool->List Nat} {vE:Value} {σ:Bi} {g:Gra} (G:Good g) (hn:bL hq nb (ptrTo C) g) (a:dL h0 br (ptrTo C) s t vPi X F vE g.nodes σ) (hB: ∀c∈boB br (ptrTo C) s t vPi X F vE σ,hq.n<=c)
 (sP:az hq 1 (encI .i64) vPi f) (lP:f.length=g.nodes) {rt:Bool->Nat} (I:BiI g.arcs g.nodes rt (fun _=>true) (fun v=>f.getD v 0) σ) (db:σ.ev.length<=100000) {i:Bool} {v:Nat} {k:Int} (hp:iH (σ.sd i).K v k) (hA:(X i).vA=.func (.func (outF i)) #[ptrTo C] #[]) (hH:(X i).vH=.func (.func (mb i)) #[] #[]):
 Ret zN 121 [ptrTo br,ptrTo (X i).b] h0 fun _ h'=>Mo (· ∈boB br (ptrTo C) s t vPi X F vE σ) h0 h'/\ ∃X' F' D,dL h' br (ptrTo C) s t vPi X' F' D g.nodes (iS g.arcs (fun _=>true) (fun v=>f.getD v 0) i v (bQ σ i v))/\(∀j,(X' j).b=(X j).b/\(X' j).vA=(X j).vA/\(X' j).vH=(X j).vH)/\ ∀c∈boB br (ptrTo C) s t vPi X' F' D (iS g.arcs (fun _=>true) (fun v=>f.getD v 0) i v (bQ σ i v)),c∈boB br (ptrTo C) s t vPi X F vE σ\/h0.n<=c:=by
 have ok:=gq.ok
 have n2:=G.n2
 have S:=a.st ok i
 have Ho:=a.ok i
 have H:=a.heap i
 have Hx:=a.heap (!i)
 have hk:=fun j c (d:c∈F j)=>a.apart' i d
 have be: ∀j,∀c∈F j,c∈boB br (ptrTo C) s t vPi X F vE σ\/h0.n<=c:=fun j c d=>.inl (nN d)
 generalize ay:boB br (ptrTo C) s t vPi X F vE σ=BB at S be
 rcases hX:X i with⟨xb,xp,xl,xa,xc,vA,vH,el,cl,ea,ca,ec,cc⟩
 rcases hY:X (!i)with⟨yb,yp,yl,ya,yc,wA,wH,fl,dl,fa,da,fc,dc⟩
 rw [hX]at Ho H hA hH
 rw [hY]at Hx
 obtain⟨gl,ML,bf⟩:=Ho.ml
 obtain⟨gc,MC,bh⟩:=Ho.mc
 simp only []at ML MC hA hH
 subst hA hH
 simp only [LC,boL,boG,eH,Sx.L,Sx.row,hX,hY]at S hk
 have dd:=fun c d=>S.key_lt (b:=c) d
 obtain⟨b8,l,aL,de⟩:=(I.sv i).op v k hp.1
 have cf:=((I.sv i).lab v l aL).1
 refine ae (n:=125) (rs:=[]) rfl Tryz.e121 rfl rfl rfl (lbt rfl) ?_
 simp only [BS,LB,Nat.reduceLT,Nat.reduceEqDiff,Fg,S.ld (b:=xb) (o:=0) m1 rfl]
 refine step_ret (tw S.ok H (by omega)) ?_
 rintro rv h2 (⟨_,a0,_⟩|⟨v',k',rfl,ch,bi,f2,H2⟩)
 . exact absurd ((a0 v).symm.trans hp.1) (by nofun)
 . obtain ⟨rfl,rfl⟩:=hp.uniq (⟨ch,bi⟩:iH (σ.sd i).K v' k')
   replace S:=S.stepF f2 (fun c d=>⟨be i c d,hk i c d⟩)
   have bk:=Hx.mo f2 (fun c d B=>(a.apart (!i) c d).2 (by rw [XT];exact B))
   have S2:=S
   have cj:=H2.lt S2.ok
   have ck:=bk.lt S2.ok
   replace S:=S.base
   have bl:=jy (x:=(v:Int)) Tryz.t218.1 Tryz.t3.1 (z:=.int .i64 0) (by kernel_rfl) (show h2.get xc=some (.map ec cc)from(S.own _ m4).2) MC
   rw [bh,if_neg b8,Xi]at bl
   have w1:aq .i64 ((0:Int)+1)=1:=rfl
   simp only [BS,LB,Nat.reduceLT,Nat.reduceEqDiff,Int.reduceAdd,Fg,bl,S.ld (b:=xb) (o:=7) m1 rfl]
   refine aC (S.mputI (i:=4) rfl Tryz.t218.1 Tryz.t3.1 MC _) ?_
   clear S;rintro h3 ⟨dj,cn,cp,cr,S⟩
   simp only [LC]at S
   have bm:=jy (x:=(v:Int)) Tryz.t277.1 Tryz.t3.1 (z:=.int .i64 0) (by kernel_rfl) (show h3.get xl=some (.map el cl)from(S.own _ m2).2) ML
   rw [bf,aL,XE,Xh]at bm
   have dm:Fl vE:=(S.gown _ m0).1.fl
   simp only [BS]
   refine aE (aJ rfl) (q:=262144) (ps:=[]) (by kernel_rfl) ?_
   simp only [BS,LB,cls,Nat.reduceLT,Nat.reduceEqDiff,Nat.reduceAdd,Nat.reducePow,Nat.reduceDiv,Nat.reduceMod,Nat.reduceLeDiff,Fg,bm,S.ld (b:=br) (o:=9) m0 rfl,S.ld (b:=xb) (o:=1) m1 rfl,S.ld (b:=xb) (o:=5) m1 rfl]
   refine df (cB (by exact Tryz.t48.1) (by exact Yd) (by decide) (by rfl)) S ?_;clear S;intro h bs S bt bu;simp only [LC,bq,bV,ag,Nat.reduceMul,Nat.reduceAdd,XM,XN,XP,XQ]at S
   simp only [BS,LB,cls,Nat.reduceLT,Nat.reduceEqDiff,Nat.reduceAdd,Nat.reducePow,Nat.reduceDiv,Nat.reduceMod,Nat.reduceLeDiff]
   have K:aP h 4 (.slice (some ⟨bs,0,none⟩) 1 1)=some (1,ig ⟨0,i,v,l⟩):=by simp only [aP];rw [S.lds (b:=bs) (o:=0) (n:=1*4) m0 (lbt rfl)];rfl
   replace S:=S.drop1
   refine jE (S.grow (j:=0) (m:=1) (new:=ig ⟨0,i,v,l⟩) rfl Tryz.t48.1 Yd (by decide) Tryz.t48.2.2.2.2.2 K rfl (by decide) rfl (by rw [bw qF];show(_+4)*_<=_;omega)) ?_
   clear S K;rintro h4 D S
   simp only [LC]at S
   have bv:Fl D:=(S.gown _ m0).1.fl
   simp only [BS,LB,cls,Nat.reduceLT,Nat.reduceEqDiff,Nat.reduceAdd,Nat.reducePow,Nat.reduceDiv,Nat.reduceMod,Nat.reduceLeDiff,Fg]
   refine dP (aI S (i:=0) rfl Tryz.t48.2.2.1 bv (Xd (lbt rfl)) ono) ?_
   clear S;rintro h5 ⟨S,dn⟩
   simp only [LC]at S
   have T:=S2.rebase S
   have N:jU σ i v=l:=by unfold jU;rw [aL];rfl
   have bo:=bo_fin a (i:=i) (x2:=⟨xb,xp,xl,xa,xc,.func (.func (outF i)) #[ptrTo C] #[],.func (.func (mb i)) #[] #[],el,cl,ea,ca,cn,cp⟩) (by rw [hX];exact⟨rfl,rfl,rfl⟩) (τ:=bQ σ i v) (y:=⟨ct (σ.sd i).K v none,(σ.sd i).L,(σ.sd i).P,(σ.sd i).O++[v]⟩) rfl (vE2:=D) (F6:=F i) (h':=h5) (by
    rw [ay]
    simp only [eH,Sx.L,Sx.row,hY,Xl,Xu,boG,bQ,N,Xp,Xy,XD,Xe]
    exact T) (H2.mo S.fr (fun c d=>hk i c d)) (by rw [hY];exact bk.mo S.fr (fun c d=>hk _ c d)) (⟨⟨gl,ML,bf⟩,Ho.ma,⟨_,cr,fun u=>by
    simp only [dg]
    by_cases hu:u=v
    . subst hu;simp;rfl
    . rw [if_neg (by omega),bh u]
      simp [hu]⟩⟩) (fun c d=>.inl d) (fun c d=>⟨fun B=>by
    simp only [eH,Sx.L,Sx.row,hY,Xl,Xu,boG,bQ,N,Xp,Xy,XD,Xe]at B
    exact(S.key_own B).elim (fun h=>by have:=cj c d;omega) (fun h=>hk i c d h),(a.apart i c d).2⟩) (fun c d B=>by
    simp only [eH,Sx.L,Sx.row,hY,Xl,Xu,boG,bQ,N,Xp,Xy,XD,Xe]at B
    exact(S.key_own B).elim (fun h=>by have:=ck c d;omega) (fun h=>hk _ c d h))
   obtain⟨X2,F2,A2,e2,bx⟩:=bo
   have a4: ∀c∈BB,hq.n<=c:=fun c d=>hB c (by rw [ay];exact d)
   have cs:Gr hq h5:=gq.mo' T.fr a4
   obtain⟨I5,m5,R5,ds,_,_⟩:=wJ I hp.1
   simp only [BS,LB,Nat.reduceLT,Nat.reduceEqDiff,Nat.reduceAdd,Fg,S.ld (b:=xb) (o:=3) m1 rfl]
   refine step_ret (outF_ok (i:=i) S.ok (hn.gr cs) (by have:=G.many;omega) cf) ?_
   rintro vL h6 ⟨g6,Y,nL⟩
   have f6:Mo (· ∈BB) h0 h6:=T.fr.trans (g6.fr (M:=NoM)) (fun _ h=>h.elim)
   have A6:=A2.gr g6
   have n6:h5.n<=h6.n:=g6.n
   have cx: ∀c∈boB br (ptrTo C) s t vPi X2 F2 D (bQ σ i v),c<h5.n:=A2.lt S.ok
   generalize hL:outs g.arcs (fsB i) g.arcs.length v=L at Y
   have cz: ∀e∈L,e<g.arcs.length/\fsB i (g.arcs.getD e default)=v:=fun e he=>by rw [<-hL]at he;exact vW.1 he
   have dx:L.length<=g.arcs.length:=by rw [<-hL];exact lh _ _ _ _
   have a5:iS g.arcs (fun _=>true) (fun v=>f.getD v 0) i v (bQ σ i v)=L.foldl (c7 g.arcs (fun _=>true) (fun v=>f.getD v 0) i v) (bQ σ i v):=by unfold iS;rw [hL]
   rw [a5]
   have dy:(X2 i).b=xb:=by rw [(e2 i).1,hX]
   simp only [BS,LB,Nat.reduceLT,Nat.reduceEqDiff,Fg,Y.lenq]
   refine cm (fun(j:Nat) ρ h=>j<=L.length/\ ∃O F3 J,dL h br (ptrTo C) s t vPi O F3 J g.nodes ((L.take j).foldl (c7 g.arcs (fun _=>true) (fun v=>f.getD v 0) i v) (bQ σ i v))/\BiI g.arcs g.nodes rt (fun _=>true) (fun v=>f.getD v 0) ((L.take j).foldl (c7 g.arcs (fun _=>true) (fun v=>f.getD v 0) i v) (bQ σ i v))/\m8 ((L.take j).foldl (c7 g.arcs (fun _=>true) (fun v=>f.getD v 0) i v) (bQ σ i v)) i v m5/\(∀j,(O j).b=(X j).b/\(O j).vA=(X j).vA/\(O j).vH=(X j).vH)/\Mo (· ∈BB) h0 h/\(∀c∈boB br (ptrTo C) s t vPi O F3 J ((L.take j).foldl (c7 g.arcs (fun _=>true) (fun v=>f.getD v 0) i v) (bQ σ i v)),(c∈BB\/h0.n<=c)/\ ¬ar vL c)/\az h 1 cI vL L/\ρ 0=ptrTo br/\ρ 1=ptrTo xb/\ρ 4=.int .i64 (v:Nat)/\ρ 55=vL/\ρ 56=.int .i64 (L.length:Nat)/\ρ 57=.int .i64 j) (fun j=>L.length-j) ?_ 0 _ _ ?_
   . clear S A6 Y
     intro j ih ρ h ⟨hj,O,F3,J,A3,I3,R3,e3,f3,sub3,Y,r0,r1,r4,r55,r56,r57⟩
     have w:aq .i64 ((j:Int)+1)=((j+1:Nat):Int):=by have:=G.many;rw [wrap64]<;>omega
     by_cases hlt:j<L.length
     . obtain⟨c0,o0,x0,y0⟩:=Y.ix (kd:=.i64) hI hlt
       obtain⟨P,ak⟩:=cz _ (Xq hlt)
       have bB:L.take (j+1)=L.take j++[L[j]]:=List.take_succ_eq_append_getElem hlt
       generalize L[j]=e at y0 P ak bB
       replace y0:h.load c0 o0 1=some [.int .i64 (e:Nat)]:=y0
       generalize bH:(L.take j).foldl (c7 g.arcs (fun _=>true) (fun v=>f.getD v 0) i v) (bQ σ i v)=τ at A3 I3 R3 sub3
       have Q:=f3.ok
       have S:=A3.st Q i
       have bP:=A3.ok i
       have H3:=A3.heap i
       have a6:=A3.heap (!i)
       have R:=fun j c (d:c∈F3 j)=>A3.apart' i d
       have Z:=e3 i
       rw [hX]at Z
       generalize U:boB br (ptrTo C) s t vPi O F3 J τ=dF at S sub3
       rcases hX3:O i with⟨V,d0,ad,d1,d2,d3,d4,a7,ba,d5,d7,d8,eb⟩
       rcases hY3:O (!i)with⟨ed,ei,ej,ek,em,en,ep,et,ev,ew,ex,ey,ez⟩
       rw [hX3]at bP H3 Z
       rw [hY3]at a6
       simp only []at Z
       obtain⟨rfl,rfl,rfl⟩:=Z
       simp only [LC,boL,boG,eH,Sx.L,Sx.row,hX3,hY3]at S R
       simp only [BS,LB,Nat.reduceLT,Nat.reduceEqDiff,Nat.reduceAdd,Int.reduceLT,Xf,Fg,r0,r55,r56,r57,aW,hlt,x0,y0,S.ld (b:=br) (o:=3) m0 rfl]
       have c3:Fl J:=(S.gown _ m0).1.fl
       have S2:=S
       have cA:=H3.lt Q
       have bX:=a6.lt Q
       replace S:=S.base
       refine aE (aJ rfl) (q:=4096) (ps:=[]) (by kernel_rfl) ?_
       simp only [BS,LB,cls,Nat.reduceLT,Nat.reduceEqDiff,Nat.reduceAdd,Nat.reducePow,Nat.reduceDiv,Nat.reduceMod,Nat.reduceLeDiff,Fg,r0,r1,S.ld (b:=br) (o:=9) m0 rfl,S.ld (b:=V) (o:=1) m1 rfl]
       refine df (cB (by exact Tryz.t48.1) (by exact Yd) (by decide) (by rfl)) S ?_;clear S;intro h bs S bt bu;simp only [LC,bq,bV,ag,Nat.reduceMul,Nat.reduceAdd,XM,XN,XP,XQ]at S
       simp only [BS,LB,cls,Nat.reduceLT,Nat.reduceEqDiff,Nat.reduceAdd,Nat.reducePow,Nat.reduceDiv,Nat.reduceMod,Nat.reduceLeDiff]
       have K:aP h 4 (.slice (some ⟨bs,0,none⟩) 1 1)=some (1,ig ⟨1,i,e,0⟩):=by simp only [aP];rw [S.lds (b:=bs) (o:=0) (n:=1*4) m0 (lbt rfl)];rfl
       replace S:=S.drop1
       have c4:τ.ev.length<=1000000:=by
        have E:=s9 (A:=g.arcs) (al:=fun _=>true) (pi:=fun v=>f.getD v 0) (b:=i) (v:=v) (L.take j) (σ:=bQ σ i v)
        rw [bH,List.length_take]at E
        have h2:(bQ σ i v).ev.length=σ.ev.length+1:=by simp [bQ]
        have:=G.many
        omega
       refine jE (S.grow (j:=0) (m:=1) (new:=ig ⟨1,i,e,0⟩) rfl Tryz.t48.1 Yd (by decide) Tryz.t48.2.2.2.2.2 K rfl (by decide) rfl (by rw [bw qF];show(_+4)*_<=_;omega)) ?_
       clear S K;rintro h8 W S
       simp only [LC]at S
       have bY:Fl W:=(S.gown _ m0).1.fl
       simp only [BS,LB,cls,Nat.reduceLT,Nat.reduceEqDiff,Nat.reduceAdd,Nat.reducePow,Nat.reduceDiv,Nat.reduceMod,Nat.reduceLeDiff,Fg]
       refine dP (aI S (i:=0) rfl Tryz.t48.2.2.1 bY (Xd (lbt rfl)) ono) ?_
       clear S;rintro h9 ⟨S,eD⟩
       simp only [LC]at S
       have T:=S2.rebase S
       have cO:(evB τ ⟨1,i,e,0⟩).sd=cG τ.sd i (τ.sd i):=by
        funext j
        unfold cG
        by_cases hj:j=i
        . rw [if_pos hj,hj];rfl
        . rw [if_neg hj];rfl
       have bo:=bo_fin A3 (i:=i) (x2:=O i) ⟨rfl,rfl,rfl⟩ (τ:=evB τ ⟨1,i,e,0⟩) cO (vE2:=W) (F6:=F3 i) (h':=h9) (by
        rw [U]
        simp only [eH,Sx.L,Sx.row,hX3,hY3,Xl,Xu,boG,evB,Xp,Xy,XD,Xe]
        exact T) (by rw [hX3];exact H3.mo S.fr (fun c d=>R i c d)) (by rw [hY3];exact a6.mo S.fr (fun c d=>R _ c d)) (A3.ok i) (fun c d=>.inl d) (fun c d=>⟨fun B=>by
        simp only [eH,Sx.L,Sx.row,hX3,hY3,Xl,Xu,boG,evB,Xp,Xy,XD,Xe]at B
        exact(S.key_own B).elim (fun h=>by have:=cA c d;omega) (fun h=>R i c d h),(A3.apart i c d).2⟩) (fun c d B=>by
        simp only [eH,Sx.L,Sx.row,hX3,hY3,Xl,Xu,boG,evB,Xp,Xy,XD,Xe]at B
        exact(S.key_own B).elim (fun h=>by have:=bX c d;omega) (fun h=>R _ c d h))
       obtain⟨X4,F4,A4,e4,ax⟩:=bo
       have f9:Mo (· ∈BB) h0 h9:=f3.trans T.fr (fun c d=>(sub3 c d).1)
       have b0:=gq.mo' f9 a4
       have cT:(X4 i).b=V:=by rw [(e4 i).1,hX3]
       simp only [BS,LB,Nat.reduceLT,Nat.reduceEqDiff,Nat.reduceAdd,Fg,r0,S.ld (b:=br) (o:=0) m0 rfl]
       refine step_ret (qh S.ok (hn.gr b0) P) ?_
       rintro r hA ⟨gA,rfl⟩
       have bb:=gA.ok
       have b1:g.arcs.getD e default=g.arcs[e]:=by simp [Xb,P]
       obtain⟨a1,a2,a3⟩:=G.arcs _ (Xq P)
       generalize g.arcs[e]=x at b1 a1 a2 a3
       have AA:=A4.gr gA
       replace S:=S.call gA
       have l4:=S.ld (b:=V) (o:=4) m1 rfl
       have l5:=S.ld (b:=V) (o:=5) m1 rfl
       have gx:=S.gown
       have SA:=S
       clear S
       have S:=Si bb
       simp only [BS,LB,Nat.reduceLT,Nat.reduceEqDiff,Fg,cE]
       refine ah aA S ?_;clear S;intro h b9 S c5
       simp only [BS,LB,Nat.reduceLT,Nat.reduceEqDiff]
       refine aC (S.store (i:=0) rfl ?_ ?_ rfl rfl ?_ ono) ?_
       . exact(by exact Tryz.t99.2.1)
       . exact(by intro x e;cases e)
       . exact lbt rfl
       clear S;rintro h ⟨S,mo⟩;clear mo;simp only [LC,ag,lay,Xn,Xo,Nat.reduceAdd]at S
       have cW:=S.old l4 (fun h=>h)
       have eF:=S.old l5 (fun h=>h)
       simp only [BS,LB,Nat.reduceLT,Nat.reduceEqDiff]
       refine aE (aJ rfl) (q:=0) (ps:=[(7,16),(7,14),(7,12)]) (by kernel_rfl) ?_
       simp only [BS,LB,cls,Nat.reduceLT,Nat.reduceEqDiff,Nat.reduceAdd,Nat.reducePow,Nat.reduceDiv,Nat.reduceMod,Nat.reduceLeDiff,Fg,r0,r1,cW,S.lds (b:=b9) (o:=0) (n:=3) m0 (lbt rfl)]
       have k9:=(S.row (b:=b9) m0).lt S.ok
       refine cD (yK (a:=x) S.ok) ?_
       intro cX af
       have z4:=bD bb l4
       have nA:=S.gr.n
       have p1:=ao af (show V<_ by omega)
       have p2:=ao af k9
       have p3:=ao af (show ad<_ from Nat.lt_of_lt_of_le (eZ bb (show hA.get ad=some (.map a7 ba)from(SA.own _ m2).2)) nA)
       replace S:=S.call af
       have b2:=S.old l5 (fun h=>h)
       have b3:cX.get ad=some (.map a7 ba):=S.gr.at (show hA.get ad=some (.map a7 ba)from(SA.own _ m2).2)
       obtain⟨eG,cY,bc⟩:=bP.ml
       have b4:=jy (x:=(v:Int)) Tryz.t277.1 Tryz.t3.1 (z:=.int .i64 0) (by kernel_rfl) b3 cY
       rw [bc v,R3.2.1,XE,Xh]at b4
       have r31:=R3.2.2.1
       have c6:=Xx bT (Xa (I3.sv i).len n2)
       have eI:=j9
       have b5:aq .i64 ((m5:Int)+(x.w:Int))=((m5+x.w:Nat):Int):=by rw [wrap64]<;>omega
       simp only [BS,LB,cls,Nat.reduceLT,Nat.reduceEqDiff,Nat.reduceAdd,Nat.reducePow,Nat.reduceDiv,Nat.reduceMod,Nat.reduceLeDiff,Fg,r1,r4,b2,b4,b5,S.ld (b:=b9) (o:=2) m0 rfl]
       have eK:=f3.n
       have eL:=gq.n
       have bd: ∀c∈boB br (ptrTo C) s t vPi X4 F4 W (evB τ ⟨1,i,e,0⟩),hq.n<=c/\(c∈BB\/h0.n<=c):=fun c d=>by
        rcases ax c d with E|E
        . rw [U]at E
          have h2:=(sub3 c E).1
          exact⟨h2.elim (a4 c) (fun h=>by omega),h2⟩
        . exact⟨by omega,.inr (by omega)⟩
       have ai:=gA.trans S.gr
       have n9:=T.fr.n
       have eM:=ai.n
       have b6: ∀c∈boB br (ptrTo C) s t vPi X4 F4 W (evB τ ⟨1,i,e,0⟩),¬ar vL c:=fun c d hb=>by
        rcases ax c d with E|E
        . rw [U]at E
          exact(sub3 c E).2 hb
        . have:=Y.blt Q hb
          omega
       have c1:=b0.trans ai
       have c2:ftB i x<g.nodes:=by unfold ftB;split<;>assumption
       have rc:=p6 S.ok (AA.gr S.gr) (sP.gr c1) lP (fun c d B=>by have E:=sP.blt gq.ok0 d;have h2:=(bd c B).1;omega) n2 (evB_I I3) (i:=i) (v:=ftB i x) (lab:=m5+x.w) (p:=e::(τ.sd i).P v) c2 (by omega)
       rw [cT]at rc
       refine cV rc ?_
       rintro r hC ⟨fC,X5,F5,A5,e5,b7⟩
       simp only [BS,LB,Nat.reduceLT,Nat.reduceEqDiff,Nat.reduceAdd,r57,w]
       refine⟨by simp only [bj,bA,aS,bK,aY,ne_eq,not_false_eq_true,bJ,cb,a9,aX,cu,cR,aO,Nat.reduceLT,Nat.reduceEqDiff,reduceIte,Xj,r0,r1,r4,r55,r56,r57,ab,note_look,au p1,av p1,au p2,av p2,au p3,av p3],?_⟩
       have es:c7 g.arcs (fun _=>true) (fun v=>f.getD v 0) i v τ e=bS (fun v=>f.getD v 0) i (evB τ ⟨1,i,e,0⟩) (ftB i x) (m5+x.w) (e::(τ.sd i).P v):=by
        have:jU τ i v=m5:=by unfold jU;rw [R3.2.1];rfl
        unfold c7
        rw [if_pos rfl,b1,this]
       have ef:(L.take (j+1)).foldl (c7 g.arcs (fun _=>true) (fun v=>f.getD v 0) i v) (bQ σ i v)=c7 g.arcs (fun _=>true) (fun v=>f.getD v 0) i v τ e:=by
        rw [bB,List.foldl_append,bH];rfl
       obtain⟨I6,K6⟩:=sU n2 (fun a ha=>G.arcs a ha) I3 R3 P ak
       refine ih (j+1) _ _ (by omega) ⟨by omega,X5,F5,W,by rw [ef,es];exact A5,by rw [ef];exact I6,by rw [ef];exact R3.ke K6,fun q=>⟨(e5 q).1.trans ((e4 q).1.trans (e3 q).1),(e5 q).2.1.trans ((e4 q).2.1.trans (e3 q).2.1),(e5 q).2.2.trans ((e4 q).2.2.trans (e3 q).2.2)⟩,?_,?_,?_,by simp [aa,r0,ab],by simp [aa,r1,ab],by simp [aa,r4],by simp [aa,r55],by simp [aa,r56],by simp [aa]⟩
       . exact(f9.trans (ai.fr (M:=NoM)) (fun _ h=>h.elim)).trans fC (fun c d=>(bd c d).2)
       . intro c d
         rw [ef,es]at d
         rcases b7 c d with E|E
         . exact⟨(bd c E).2,b6 c E⟩
         . refine⟨.inr (by omega),fun hb=>?_⟩
           have:=Y.blt Q hb
           omega
       . exact((Y.mo T.fr (fun c d B=>(sub3 c B).2 d)).gr ai).mo fC (fun c d B=>b6 c B d)
     . have:j=L.length:=by omega
       subst this
       rw [List.take_length]at A3 sub3
       simp only [BS,LB,Nat.reduceLT,r56,r57,aW,hlt]
       exact⟨f3,O,F3,J,A3,e3,fun c d=>(sub3 c d).1⟩
   . exact⟨Xz _,X2,F2,D,A6,I5,R5,e2,f6,fun c d=>⟨by rw [<-ay];exact bx c d,fun hb=>by have E:=nL c hb;have h2:=cx c d;omega⟩,Y,by simp [aa,cL,ab],by simp [aa,cL,ab],by simp [aa],by simp [aa],by simp [aa],by simp [aa]⟩
end Go.Ab
end
section
namespace Go.Ab
section
variable{A:List Arc}{N r:Nat}{al:Nat->Bool}{pi:Nat->Int}{i:Bool}{x:Sd}
theorem SvB.ids(h:SvB A N r al pi i x): ∀(n:Nat) {v:Nat},(x.P v).length<=n->(x.L v).isSome=true-> ∀e∈x.P v,e<A.length:=by
 intro n
 induction n with
 | zero=>
   intro v c _ e b
   rw [List.length_eq_zero_iff.1 (Nat.le_zero.1 c)]at b
   cases b
 | succ n f=>
   intro v c d e b
   obtain⟨l,d⟩:=Option.isSome_iff_exists.1 d
   rcases h.path v l d with⟨_,g,_⟩|⟨a,m,j,_,_,_,k,o,_⟩
   . rw [g]at b;cases b
   . rw [k]at c b
     rcases List.mem_cons.1 b with rfl|b
     . exact j
     . exact f (by rw [XS]at c;omega) (by rw [o];rfl) e b
end
end Go.Ab

end
section
namespace Go.Ab
open Go.Proofs
set_option maxRecDepth 10000
def Tryz.Ff:=aj t1<|aj t2<|aj t3<|aj t4<|aj t5<|aj t6<|aj Z3<|aj Z5<|aj t9<|aj t10<|aj t11<|aj t12<|aj Z15<|aj Z18<|aj t15<|aj t16<|aj t17<|aj Z21<|aj Z20<|aj t20<|aj t24<|aj Z0<|aj t32<|aj t33<|aj t45<|aj t48<|aj t58<|aj t74<|aj Z13<|aj Z8<|aj Z9<|aj t181<|aj t189<|aj Z1<|aj t192<|aj t199<|aj t200<|aj t201<|aj Z12<|aj t218<|aj t271<|aj t275<|aj t277<|aj Z16<|aj t358<|aj Z19<|aj t372<|aj t374<|aj t376<|aj t377<|aj t378<|aj t379<|Z14
section
variable{A:List Arc}{N r:Nat}{al:Nat->Bool}{pi:Nat->Int}{i:Bool}{x:Sd}
theorem SvB.nxt(h:SvB A N r al pi i x): ∀(n:Nat) {v:Nat},(x.P v).length<=n->(x.L v).isSome=true->NxtL (nxB A i x.P) v (x.P v):=by
 intro n
 induction n with
 | zero=>
   intro v b _
   have e:=List.length_eq_zero_iff.1 (Nat.le_zero.1 b)
   rw [e]
   exact .nil (by unfold nxB;rw [e])
 | succ n g=>
   intro v b c
   obtain⟨l,c⟩:=Option.isSome_iff_exists.1 c
   rcases h.path v l c with⟨_,f,_⟩|⟨a,m,k,_,_,_,d,j,_⟩
   . rw [f]
     exact .nil (by unfold nxB;rw [f])
   . have e:=g (v:=fsB i (A.getD a default)) (by rw [d,XS]at b;omega) (by rw [j];rfl)
     rw [d]
     exact .cons (by unfold nxB;rw [d]) e
theorem SvB.nxtD(h:SvB A N r al pi i x){v y w:Nat}(c:(x.L v).isSome=true)(b:nxB A i x.P v=some (y,w)):(x.L w).isSome=true:=by
 obtain⟨l,c⟩:=Option.isSome_iff_exists.1 c
 rcases h.path v l c with⟨_,d,_⟩|⟨a,m,g,_,_,_,e,f,_⟩
 . unfold nxB at b;rw [d]at b;cases b
 . unfold nxB at b;rw [e]at b;cases b;rw [f];rfl
end
theorem bo_init{k l h3:Hp}{br:Nat}{pn:Value}{s t:Nat}{vPi:Value}{x y:Sx}{m n:List Nat}{N:Nat}(G:k.t.Sized k.n)(R:Row h3 br (eH pn s t vPi (fun j=>if j=true then y else x) (.slice none 0 0) ⟨fun _=>fm,[],FAR,0⟩) 1)(T:br<k.n)
 (u:Mo (· =br) l h3) (o:k.n<=l.n) (B: ∀q∈x.L false,Has l q.1 q.2) (H: ∀q∈y.L true,Has h3 q.1 q.2) (I:x.Ok fm) (J:y.Ok fm) (C:bC l m (ptrTo x.p) N (fun _=>none)) (K:bC h3 n (ptrTo y.p) N (fun _=>none))
 (nx: ∀c∈keys (x.L false) []++m,k.n<=c) (D: ∀c∈keys (y.L true) []++n,l.n<=c) (L:(keys (x.L false) []).Nodup) (M:(keys (y.L true) []).Nodup) (O: ∀c∈m,c∉keys (x.L false) []) (P: ∀c∈n,c∉keys (y.L true) []):
 dL h3 br pn s t vPi (fun j=>if j=true then y else x) (fun j=>if j=true then n else m) (.slice none 0 0) N ⟨fun _=>fm,[],FAR,0⟩/\ ∀c∈boB br pn s t vPi (fun j=>if j=true then y else x) (fun j=>if j=true then n else m) (.slice none 0 0) ⟨fun _=>fm,[],FAR,0⟩,c=br\/k.n<=c:=by
 have p:=u.ok0
 have E: ∀c∈keys (x.L false) [],c<l.n:=fun c d=>by
  simp only [keys,Xm,Xe]at d
  obtain⟨q,f,rfl⟩:=List.mem_map.1 d
  exact(B q f).lt p
 have F:=C.lt p
 have v: ∀c∈keys (x.L false) [],k.n<=c:=fun c d=>nx c (zM _ d)
 have w: ∀c∈m,k.n<=c:=fun c d=>nx c (Xc _ d)
 have r: ∀c∈keys (y.L true) [],l.n<=c:=fun c d=>D c (zM _ d)
 have z: ∀c∈n,l.n<=c:=fun c d=>D c (Xc _ d)
 have A:keys (boL false br pn s t vPi (fun j=>if j=true then y else x) (.slice none 0 0) ⟨fun _=>fm,[],FAR,0⟩) (boG (.slice none 0 0) ⟨fun _=>fm,[],FAR,0⟩)=br::(keys (x.L false) []++keys (y.L true) []):=by
  simp [keys,boL,boG,dY]
 have own: ∀q∈boL false br pn s t vPi (fun j=>if j=true then y else x) (.slice none 0 0) ⟨fun _=>fm,[],FAR,0⟩,Has h3 q.1 q.2:=fun q f=>by
  rcases List.mem_cons.1 f with rfl|f
  . exact R
  . rcases List.mem_append.1 f with f|f
    . have f:q∈x.L false:=f
      refine u.has (B q f) fun e=>?_
      have:=v q.1 (by simp only [keys,Xm,Xe];exact List.mem_map.2 ⟨q,f,rfl⟩)
      omega
    . exact H q f
 refine⟨⟨own,.inl ⟨rfl,rfl⟩,?_,?_,?_,?_⟩,?_⟩
 . rw [A,XJ,List.nodup_append]
   refine⟨fun g=>?_,L,M,fun a Q b S e=>?_⟩
   . rcases List.mem_append.1 g with h|h
     . have:=v _ h;omega
     . have:=r _ h;omega
   . have:=E a Q
     have:=r b S
     omega
 . intro i
   cases i
   . exact C.mo u (fun c d e=>by have:=w c d;omega)
   . exact K
 . intro i
   cases i
   . exact I
   . exact J
 . intro i c d
   rw [A]
   cases i
   . have d:c∈m:=d
     have:=F c d
     have:=w c d
     refine⟨fun g=>?_,fun g=>?_⟩
     . rcases List.mem_cons.1 g with h|h
       . omega
       . rcases List.mem_append.1 h with h|h
         . exact O c d h
         . have:=r c h;omega
     . have:=z c g;omega
   . have d:c∈n:=d
     have:=z c d
     refine⟨fun g=>?_,fun g=>?_⟩
     . rcases List.mem_cons.1 g with h|h
       . omega
       . rcases List.mem_append.1 h with h|h
         . have:=E c h;omega
         . exact P c d h
     . have g:c∈m:=g
       have:=F c g;omega
 . intro c d
   unfold boB at d
   rw [A]at d
   rcases List.mem_append.1 d with h|h
   . rcases List.mem_cons.1 h with h|h
     . exact .inl h
     . rcases List.mem_append.1 h with h|h
       . exact .inr (v c h)
       . exact .inr (Xa o (r c h))
   . rcases List.mem_append.1 h with h|h
     . exact .inr (w c h)
     . exact .inr (Xa o (z c h))
theorem st_rg{h:Hp}(i:h.t.Sized h.n){b:Nat}{l:List Value}{v:Value}{vs:List Value}(R:Row h b l 1)(G:eX h (v,1,vs))(a: ∀c,ar v c->c≠b):St (fun c=>c=b\/ar v c) h h [(b,.row l 1)] [(v,1,vs)]:=by
 refine⟨Mo.refl i,fun p d=>?_,fun p d=>?_,?_⟩
 . rw [List.mem_singleton.1 d];exact⟨.inr (.inl rfl),R⟩
 . rw [List.mem_singleton.1 d]
   refine⟨G,fun c f=>.inr (.inr ?_)⟩
   rcases G with⟨e,_⟩|⟨g,n,e,_⟩
   . simp only []at e;subst e;cases f
   . simp only []at e;subst e;cases f;rfl
 . rcases G with⟨e,_⟩|⟨g,n,e,_⟩
   . simp only []at e;subst e;exact(by simp:([b]:List Nat).Nodup)
   . simp only []at e;subst e
     have:=a g rfl
     simp [keys,dY]
     exact fun h=>this h.symm
theorem natC_flat(l:List Nat):(l.flatMap cI).all iT=true:=by
 induction l with
 |nil=>rfl
 |cons x l a=>rw [Xy,List.all_append,a];rfl
theorem BiI.keyB{A:List Arc}{N:Nat}{a:Bool->Nat}{al:Nat->Bool}{pi:Nat->Int}{σ:Bi}(h:BiI A N a al pi σ)(b:N<=12)(i:Bool)(v:Nat)(k:Int)(c:(σ.sd i).K v=some k): -1000000000000000000<=k/\k<=1000000000000000000:=by
 obtain⟨_,l,d,e⟩:=(h.sv i).op v k c
 obtain⟨_,f,j,_⟩:=(h.sv i).lab v l d
 have m:=Xx bT (Xa (h.sv i).len b)
 have n:=j9
 have o:=jm
 obtain⟨p,q⟩:=f
 cases i
 . have g:qB pi false v=pi v:=rfl
   omega
 . have g:qB pi true v= -pi v:=rfl
   omega
theorem Au {h0:Hp} (ok:h0.t.Sized h0.n) {E nb s t:Nat} {B:Gra} (K:Good B) (W:bL h0 nb (ptrTo E) B) {vPi:Value} {z:List Int} (sP:az h0 1 (encI .i64) vPi z) (lP:z.length=B.nodes) (hs:s<B.nodes) (ht:t<B.nodes) (a3:s≠t):
 Ret zN 50 [ptrTo E,.agg ⟨[.int .i64 (s:Nat),.int .i64 (t:Nat),.slice none 0 0,vPi]⟩] h0 fun r h'=>Gr h0 h'/\ ∃vA vE τ,r=.tuple #[.agg ⟨[.int .i64 (τ.dist:Nat),vA,vE]⟩,.int .i64 0]/\mM B.arcs (fun _=>true) (fun v=>z.getD v 0) (kC (fun v=>z.getD v 0) s t) τ/\
  az h' 4 ig vE τ.ev/\az h' 1 cI vA (if τ.dist<FAR then arcsB τ else [])/\ ∀c,ar vA c\/ar vE c->h0.n<=c:=by
 have S:=Si ok
 have fP:=sP.fl
 have Y:=K.n2
 have cj:=jm
 have bd: ¬((s:Int)=(t:Int)):=by omega
 have hA: ∀a∈B.arcs,a.s<B.nodes/\a.t<B.nodes/\a.w<=bT:=fun a ha=>K.arcs a ha
 refine ae (n:=113) (rs:=[.cell 4 114,.tmp 5]) rfl Tryz.e50 rfl rfl rfl (lbt rfl) ?_
 simp only [BS,Nat.reduceLT]
 refine ah (a8 (by intro x e;cases e)) S ?_;clear S;intro h Z S ca;simp only [ag]at S
 simp only [BS,Ff]
 refine ah aA S ?_;clear S;intro h b4 S cc
 simp only [BS,LB,Nat.reduceLT,Nat.reduceEqDiff,Ff,XH,XX,Ya,S.lds (b:=Z) (o:=0) (n:=4) m1 (lbt rfl)]
 refine an (right_ok S.ok (W.gr S.gr) hs ht (sP.gr S.gr) lP) ?_
 intro h g;replace S:=S.call g;clear g
 simp only [BS,LB,Nat.reduceLT,Nat.reduceEqDiff,Nat.reduceAdd,Nat.reduceLeDiff,Ff,bd,XH,XX,Ya,S.ld (b:=Z) (o:=0) m1 rfl,S.ld (b:=Z) (o:=1) m1 rfl,S.lds (b:=Z) (o:=0) (n:=4) m1 (lbt rfl)]
 refine ah (a8 (by intro x e;cases e)) S ?_;clear S;intro h d S bx;simp only [ag]at S
 have Rq:=S.row (b:=d) m0
 have R3:=S.row (b:=Z) m2
 have R4:=S.row (b:=b4) m1
 have k3:=R3.lt S.ok
 have k4:=R4.lt S.ok
 have kq:=Rq.lt S.ok
 have ap:=S.apart
 simp only [keys,XA,XL,Xm,Xe,XJ,XB,XC,or_false,not_or]at ap
 have a4:Z≠d:=fun e=>by omega
 have be:b4≠d:=fun e=>by omega
 have g0:=S.gr
 have bf:=S.ok
 have eF:((FAR:Nat):Int)=72057594037927936:=by rw [jm];rfl
 rename Hp=>hA'
 have H: ∀{h:Hp},Mo (· =d) hA' h->Gr h0 h:=fun f=>(g0.fr.trans f (fun i G=>.inr (by subst G;omega)):Mo NoM h0 _).gr
 have a5: ∀{h:Hp} {b:Nat} {l:List Value},Mo (· =d) hA' h->Row hA' b l 1->b≠d->Row h b l 1:=fun {h b l} f r e=>f.has (b:=b) (o:=.row l 1) r e
 simp only [BS,LB,Nat.reduceLT,Nat.reduceEqDiff,Ff,S.ld (b:=Z) (o:=0) m2 rfl]
 have P:Ret zN 114 [ptrTo d,.int .i64 0,.int .i64 (s:Nat),.int .i64 1,.func (.func (outF false)) #[ptrTo E] #[],.func (.func (mb false)) #[] #[]] hA' _:=vS bf (W.gr g0) Rq rfl rfl (i:=false) (v:=s) gI gI
 refine step_ret P ?_
 rintro r Q ⟨f1,x,F1,R1,hx,xA,xH,ox,Hx,nx,dx,ax⟩
 clear P
 clear S
 have S:=Si f1.ok
 have bh:Row Q Z _ 1:=f1.has (b:=Z) (o:=.row _ 1) R3 a4
 simp only [BS,LB,Nat.reduceLT,Nat.reduceEqDiff,Ff,bh.load1 (o:=1) rfl]
 have P:Ret zN 114 [ptrTo d,.int .i64 1,.int .i64 (t:Nat),.int .i64 (-1),.func (.func (outF true)) #[ptrTo E] #[],.func (.func (mb true)) #[] #[]] Q _:=vS f1.ok (W.gr (H f1)) R1 rfl rfl (i:=true) (v:=t) gI gI
 refine step_ret P ?_
 rintro r R ⟨f2,y,F2,R2,hy,yA,yH,oy,Hy,ny,dy,ay⟩
 clear P
 have bi:Row R d (eH (ptrTo E) s t vPi (fun j=>if j=true then y else x) (.slice none 0 0) ⟨fun _=>fm,[],FAR,0⟩) 1:=by
  unfold eH
  rw [eF]
  exact R2
 obtain⟨A0,L⟩:=bo_init bf bi kq f2 f1.n hx hy ox oy Hx Hy nx ny dx dy ax ay
 have ad: ∀j:Bool,((fun j:Bool=>if j=true then y else x) j).vA=.func (.func (outF j)) #[ptrTo E] #[]/\((fun j:Bool=>if j=true then y else x) j).vH=.func (.func (mb j)) #[] #[]:=fun j=>by
  cases j
  . exact⟨xA,xH⟩
  . exact⟨yA,yH⟩
 have N:Mo (· =d) hA' R:=f1.trans f2 (fun i G=>.inl G)
 clear R2 bi hx hy ox oy Hx Hy nx ny dx dy ax ay xA xH yA yH f1 f2 R1 bh S
 generalize(fun j:Bool=>if j=true then y else x)=X0 at A0 L ad
 generalize(fun j:Bool=>if j=true then F2 else F1)=F0 at A0 L
 have nP: ∀{h:Hp} {X:Bool->Sx} {F:Bool->List Nat} {vE:Value} {σ:Bi},(∀c∈boB d (ptrTo E) s t vPi X F vE σ,c=d\/hA'.n<=c)-> ∀c,ar vPi c->c∉boB d (ptrTo E) s t vPi X F vE σ:=fun {h X F vE σ} pB c C hm=>by
  have Q:=sP.blt ok C
  have R:=g0.n
  rcases pB c hm with h|h<;>omega
 have bk:=N.ok
 have S:=Si bk
 rename Hp=>hB
 have l5:=A0.rows.1.load1 (o:=5) rfl
 have bl:=(a5 N R3 a4).load1 (o:=0) rfl
 simp only [BS]
 refine aE (aJ rfl) (q:=0) (ps:=[]) (by kernel_rfl) ?_
 simp only [BS,LB,cls,Nat.reduceLT,Nat.reduceEqDiff,Nat.reduceAdd,Nat.reducePow,Nat.reduceDiv,Nat.reduceMod,Nat.reduceLeDiff,Int.reduceToNat,Int.reduceLE,Int.reduceLT,Xf,Ff,l5,bl]
 have P:Ret zN 119 [ptrTo d,ptrTo (X0 false).b,.int .i64 (s:Nat),.int .i64 (-1),.int .i64 0] hB _:=p6 bk A0 (sP.gr (H N)) lP (nP (h:=hB) L) Y (uy (A:=B.arcs) (al:=fun _=>true) (s:=s) (t:=t)) (i:=false) (v:=s) (lab:=0) (p:=[]) hs (Xz _)
 refine cV P ?_
 rintro r hC ⟨f4,X1,F1,A1,e1,a1⟩
 clear P
 simp only [BS,LB,Nat.reduceAdd]
 have af: ∀c∈boB d (ptrTo E) s t vPi X1 F1 (.slice none 0 0) _,c=d\/hA'.n<=c:=fun c C=>(a1 c C).elim (fun h=>L c h) (fun h=>.inr (Xa N.n h))
 have J:Mo (· =d) hA' hC:=N.trans f4 L
 have I1:=(uy (A:=B.arcs) (al:=fun _=>true) (pi:=fun v=>z.getD v 0) (s:=s) (t:=t)).reach (b:=false) (v:=s) (p:=[]) (lab:=0) Y hs (Xz _) (Xz _) (.inl ⟨rfl,rfl,rfl⟩)
 clear S
 have S:=Si J.ok
 have l6:=A1.rows.1.load1 (o:=6) rfl
 have bm:=(a5 J R3 a4).load1 (o:=1) rfl
 refine aE (aJ rfl) (q:=0) (ps:=[]) (by kernel_rfl) ?_
 simp only [BS,LB,cls,Nat.reduceLT,Nat.reduceEqDiff,Nat.reduceAdd,Nat.reducePow,Nat.reduceDiv,Nat.reduceMod,Nat.reduceLeDiff,Int.reduceToNat,Int.reduceLE,Int.reduceLT,Xf,Ff,l6,bm]
 have P:Ret zN 119 [ptrTo d,ptrTo (X1 true).b,.int .i64 (t:Nat),.int .i64 (-1),.int .i64 0] hC _:=p6 J.ok A1 (sP.gr (H J)) lP (nP (h:=hC) af) Y I1 (i:=true) (v:=t) (lab:=0) (p:=[]) ht (Xz _)
 refine cV P ?_
 rintro r hD ⟨f5,X2,F2,A2,e2,T⟩
 clear P
 simp only [BS,LB,Nat.reduceLT,Nat.reduceEqDiff,Nat.reduceAdd]
 have eI:bS (fun v=>z.getD v 0) true (bS (fun v=>z.getD v 0) false ⟨fun _=>fm,[],FAR,0⟩ s 0 []) t 0 []=kC (fun v=>z.getD v 0) s t:=rfl
 rw [eI]at A2 T
 have bo: ∀c∈boB d (ptrTo E) s t vPi X2 F2 (.slice none 0 0) (kC (fun v=>z.getD v 0) s t),c=d\/hA'.n<=c:=fun c C=>(T c C).elim (fun h=>af c h) (fun h=>.inr (Xa J.n h))
 have a6:Mo (· =d) hA' hD:=J.trans f5 af
 have I2:=initB_I (A:=B.arcs) (al:=fun _=>true) (pi:=fun v=>z.getD v 0) Y hs ht
 have br: ∀j,(X2 j).vA=.func (.func (outF j)) #[ptrTo E] #[]/\(X2 j).vH=.func (.func (mb j)) #[] #[]:=fun j=>⟨(e2 j).2.1.trans ((e1 j).2.1.trans (ad j).1),(e2 j).2.2.trans ((e1 j).2.2.trans (ad j).2)⟩
 have O2:=fun j=>initB_O (pi:=fun v=>z.getD v 0) (s:=s) (t:=t) j
 refine step_ret (wS a6.ok A2 (I2.keyB Y) (I2.distLe Y)) ?_
 rintro r hE ⟨gE,nx⟩
 simp only [BS,LB,Nat.reduceLT,Nat.reduceEqDiff]
 have A3:=A2.gr gE
 have bs:Mo (· =d) hA' hE:=a6.trans (gE.fr (M:=NoM)) (fun _ h=>h.elim)
 refine cm (fun(σ:Bi) ρ h=> ∃X F vE,Mo (· =d) hA' h/\dL h d (ptrTo E) s t vPi X F vE B.nodes σ/\(∀c∈boB d (ptrTo E) s t vPi X F vE σ,c=d\/hA'.n<=c)/\(∀j,(X j).vA=.func (.func (outF j)) #[ptrTo E] #[]/\(X j).vH=.func (.func (mb j)) #[] #[])/\BiI B.arcs B.nodes (rtB s t) (fun _=>true) (fun v=>z.getD v 0) σ/\σ.ev.length<=200*((σ.sd false).O.length+(σ.sd true).O.length)/\
  (∀τ,mM B.arcs (fun _=>true) (fun v=>z.getD v 0) σ τ->mM B.arcs (fun _=>true) (fun v=>z.getD v 0) (kC (fun v=>z.getD v 0) s t) τ)/\((StopB σ/\ρ 7=.pointer none)\/ ∃i,TurnB σ i/\ρ 7=ptrTo (X i).b)/\ρ 0=ptrTo E/\ρ 4=ptrTo b4/\ρ 6=ptrTo d) (fun σ=>2*B.nodes-((σ.sd false).O.length+(σ.sd true).O.length)) ?_ (kC (fun v=>z.getD v 0) s t) _ _ ?_
 . clear A2 A3 A1 A0 I2 I1 O2 L af bo N J a6 bs nx e1 e2 ad br a1 T eI gE f4 f5 S l5 bl l6 bm
   intro σ ih ρ h ⟨X,F,vE,fh,A,pB,eV,I,hev,hEnd,nx,r0,r4,r6⟩
   have o1:=(I.sv false).len
   have o2:=(I.sv true).len
   rcases nx with⟨a3,r7⟩|⟨i,tu,r7⟩
   . have gh:=H fh
     have O:=fh.ok
     have S0:=A.st O false
     have l7:=A.rows.1.load1 (o:=7) rfl
     have l5:=A.rows.1.load1 (o:=5) rfl
     have a7:=a5 fh R4 be
     have ck:=a7.lt O
     have nE: ∀c,ar vE c->h0.n<=c/\c≠d/\c≠b4/\c<h.n:=fun c C=>by
      have Q:=pB c (zM _ (eo (p:=(vE,4,σ.ev.flatMap ig)) m0 (pH A.ev C)))
      have R:c≠d:=fun e=>(S0.gblk m0 C).2 (by rw [e];exact m0)
      have h3:=A.ev.lt O (pH A.ev C)
      have:=g0.n
      rcases Q with h|h
      . exact absurd h R
      . exact⟨by omega,R,by omega,h3⟩
     have sE:az h 4 ig vE σ.ev:=A.ev.sl rfl qF (by decide)
     have fE:=sE.fl
     by_cases hd:σ.dist<FAR
     . have ba:(σ.dist:Int)<72057594037927936:=by omega
       obtain⟨x,y,q1,q2,_⟩:=(I.dm.resolve_left (fun h=>by omega)) false
       have q2:(σ.sd true).L σ.meet=some y:=q2
       have ai:=I.sv false
       have ak:=I.sv true
       have cf:=(ai.lab _ _ q1).2.2.2.1
       have ch:=(ak.lab _ _ q2).2.2.2.1
       have nd:=(List.nodup_cons.1 (show(d::_).Nodup from A.nd)).1
       have bB:(X true).b≠d:=fun e=>nd (by rw [<-e];simp [Sx.L])
       have bH:(X true).ma≠d:=fun e=>nd (by rw [<-e];simp [Sx.L])
       clear S0
       simp only [BS,LB,Nat.reduceLT,Nat.reduceEqDiff,Int.reduceToNat,Int.reduceLE,Int.reduceLT,Xf,Ff,r6,r7,l7,ba,l5]
       refine step_ret (back_ok O (W.gr gh) K (A.bk false) (eV false).2 (D:=fun v=>((σ.sd false).L v).isSome=true) (fun v hv=>⟨hv,ai.ids _ (Xk _) hv⟩) (fun v y w hv W=>ai.nxtD hv W) (by rw [q1];rfl) (ai.nxt _ (Xk _) (by rw [q1];rfl)) (by omega)) ?_
       rintro v1 Q ⟨g1,G1,n1⟩
       have bP:Fl v1:=G1.fl
       have bb: ∀c,ar v1 c->c≠d:=fun c C e=>by have:=n1 c C;have:=A.rows.1.lt O;omega
       have S:=st_rg g1.ok (A.rows.1.gr g1) G1 bb
       simp only [eH]at S
       simp only [BS,LB,Nat.reduceLT,Nat.reduceEqDiff,Nat.reduceAdd,Ff]
       refine aC (aI S (i:=0) rfl Tryz.t33.2.2.1 bP (Xd (lbt rfl)) ono) ?_
       clear S;rintro R ⟨S,bX⟩
       simp only [LC]at S
       simp only [BS,LB,Nat.reduceLT,Nat.reduceEqDiff,Nat.reduceAdd,Ff,r6,S.ld (b:=d) (o:=8) m0 rfl]
       refine step_ret (yW S.ok (S.gown _ m0).1 (by omega)) ?_
       rintro r h3 ⟨f3,G3⟩
       have aL:Row h3 d _ 1:=f3.has (b:=d) (o:=.row _ 1) (S.row m0) (fun C=>bb _ C rfl)
       have S3:=st_rg f3.ok aL G3 bb
       clear S
       have S:=S3
       clear S3
       have fT:Mo (· =d) h h3:=((g1.fr (M:=(· =d))).trans bX (fun i G=>.inl G)).trans f3 (fun i G=>.inr (n1 i G))
       have bY:Mo (· =d) hA' h3:=fh.trans fT (fun i G=>.inl G)
       have B1:BkAt h3 d (ptrTo E) σ.meet true (X true) (σ.sd true):=⟨aL.load1 (o:=0) rfl,aL.load1 (o:=10) rfl,fT.has (b:=(X true).b) (o:=.row _ 1) (A.rows.2 true) bB,fT.has (b:=(X true).ma) (o:=.map _ _) (A.bk true).map bH,A.ok true⟩
       have b0:=aL.lt f3.ok
       simp only [BS]
       refine aE (aJ rfl) (q:=0) (ps:=[(5,12)]) (by kernel_rfl) ?_
       simp only [BS,LB,cls,Nat.reduceLT,Nat.reduceEqDiff,Nat.reduceAdd,Nat.reducePow,Nat.reduceDiv,Nat.reduceMod,Nat.reduceLeDiff,Int.reduceToNat,Int.reduceLE,Int.reduceLT,Xf,Ff,r6,S.ld (b:=d) (o:=8) m0 rfl,S.ld (b:=d) (o:=6) m0 rfl]
       refine cV (back_ok f3.ok (W.gr (H bY)) K B1 (eV true).2 (D:=fun v=>((σ.sd true).L v).isSome=true) (fun v hv=>⟨hv,ak.ids _ (Xk _) hv⟩) (fun v y w hv W=>ak.nxtD hv W) (by rw [q2];rfl) (ak.nxt _ (Xk _) (by rw [q2];rfl)) (by omega)) ?_
       rintro v2 h4 ⟨g4,G2,cl⟩
       have e29:=ao g4 b0
       replace S:=S.call g4
       have s2:az h4 1 cI v2 ((σ.sd true).P σ.meet):=G2.sl rfl hI (by decide)
       simp only [BS,LB,cls,Nat.reduceLT,Nat.reduceEqDiff,Nat.reduceAdd,Nat.reducePow,Nat.reduceDiv,Nat.reduceMod,Nat.reduceLeDiff]
       refine jE (S.grow (j:=0) (m:=((σ.sd true).P σ.meet).length) (new:=((σ.sd true).P σ.meet).flatMap cI) rfl Tryz.t33.1 X6 (by decide) Tryz.t33.2.2.2.2.2 s2.src (by rw [nX];omega) (by decide) (natC_flat _) (by rw [nX,nX,List.length_reverse];omega)) ?_
       clear S;rintro h5 vA S
       simp only [LC]at S
       have bt:Fl vA:=(S.gown _ m0).1.fl
       simp only [BS,LB,cls,Nat.reduceLT,Nat.reduceEqDiff,Nat.reduceAdd,Nat.reducePow,Nat.reduceDiv,Nat.reduceMod,Nat.reduceLeDiff,Ff]
       refine dP (aI S (i:=0) rfl Tryz.t33.2.2.1 bt (Xd (lbt rfl)) ono) ?_
       clear S;rintro h6 ⟨S,cn⟩
       simp only [LC]at S
       simp only [BS,LB,Nat.reduceLT,Nat.reduceEqDiff,Nat.reduceAdd,Ff,r6]
       refine⟨by simp only [bj,bA,aS,bK,aY,ne_eq,not_false_eq_true,bJ,cb,a9,aX,cu,cR,aO,Nat.reduceLT,Nat.reduceEqDiff,reduceIte,Xj,r0,r4,r6,r7,ab,jC,au e29,av e29],?_⟩
       have bu:=S.ok
       have b1:Mo (fun c=>c=d\/ar v1 c) h3 h6:=S.fr
       have bc:Mo (· =d) h h6:=fT.trans b1 (fun i G=>G.elim .inl (fun h=>.inr (n1 i h)))
       have b2:Row h6 b4 _ 1:=bc.has (b:=b4) (o:=.row _ 1) a7 be
       have U:=S.lds (b:=d) (o:=7) (n:=3) m0 (lbt rfl)
       simp only [Xo,Xn]at U
       have sA:az h6 1 cI vA (arcsB σ):=(S.gown _ m0).1.sl (by unfold arcsB;rw [Xp]) hI (by decide)
       have nA: ∀c,ar vA c->h0.n<=c/\c≠b4:=fun c C=>by
        obtain⟨Q,R⟩:=S.gblk m0 C
        have:=gh.n
        have:=fT.n
        rcases Q with h|h|h
        . exact⟨by omega,by omega⟩
        . exact absurd (by rw [h];exact m0) R
        . have:=n1 c h
          exact⟨by omega,by omega⟩
       have b5:=sE.mo bc (fun c C e=>(nE c C).2.1 e)
       have g6:Gr h0 h6:=H (fh.trans bc (fun i G=>.inl G))
       clear S
       have S:=St.init1 bu (o:=.row _ 1) b2
       simp only [BS,LB,Nat.reduceLT,Nat.reduceEqDiff,r4,U]
       refine aC (S.store (i:=0) rfl Tryz.t114.2.1 (by intro x e;cases e) rfl (by simp only [ag,XR,XV,bt.2.1,fE.2.1,Xj];rfl) (lbt rfl) ono) ?_
       clear S;rintro h7 ⟨S,a0⟩
       simp only [LC,ag,lay,Xn,Xo,Nat.reduceAdd]at S
       simp only [BS,ac]
       refine(eu (by decide) (by simp only [aO,r4,ab,Nat.reduceEqDiff,reduceIte];exact cF Tryz.t114.1 Tryz.t114.2.1 (S.lds (b:=b4) (o:=0) (n:=3) m0 (lbt rfl)))).2 ?_
       refine(eQ (by decide)).2 (eJ.2 ?_)
       have gZ:Gr h0 h7:=(g6.fr.trans S.fr (fun i G=>.inr (by subst G;omega)):Mo NoM h0 h7).gr
       exact⟨gZ,vA,vE,σ,rfl,hEnd σ (.stop a3),b5.mo a0 (fun c C e=>(nE c C).2.2.1 e),by rw [if_pos hd];exact sA.mo a0 (fun c C e=>(nA c C).2 e),fun c C=>C.elim (fun h=>(nA c h).1) (fun h=>(nE c h).1)⟩
     . have ba: ¬(σ.dist:Int)<72057594037927936:=by omega
       have U:=A.rows.1.load (o:=7) (n:=3) (lbt rfl)
       simp only [eH,Xo,Xn]at U
       have g6:=gh
       have fN:Fl (.slice none 0 0):=bF
       have S:=St.init1 O (o:=.row _ 1) a7
       simp only [BS,LB,Nat.reduceLT,Nat.reduceEqDiff,Ff,r6,r7,l7,ba]
       simp only [BS,LB,Nat.reduceLT,Nat.reduceEqDiff,r4,U]
       refine aC (S.store (i:=0) rfl Tryz.t114.2.1 (by intro x e;cases e) rfl (by simp only [ag,XR,XV,fN.2.1,fE.2.1,Xj];rfl) (lbt rfl) ono) ?_
       clear S;rintro h7 ⟨S,a0⟩
       simp only [LC,ag,lay,Xn,Xo,Nat.reduceAdd]at S
       simp only [BS,ac]
       refine(eu (by decide) (by simp only [aO,r4,ab,Nat.reduceEqDiff,reduceIte];exact cF Tryz.t114.1 Tryz.t114.2.1 (S.lds (b:=b4) (o:=0) (n:=3) m0 (lbt rfl)))).2 ?_
       refine(eQ (by decide)).2 (eJ.2 ?_)
       have gZ:Gr h0 h7:=(g6.fr.trans S.fr (fun i G=>.inr (by subst G;omega)):Mo NoM h0 h7).gr
       exact⟨gZ,_,vE,σ,rfl,hEnd σ (.stop a3),sE.mo a0 (fun c C e=>(nE c C).2.2.1 e),by rw [if_neg hd];exact .inl ⟨rfl,rfl⟩,fun c C=>C.elim (fun h=>h.elim) (fun h=>(nE c h).1)⟩
   . obtain⟨v,k,hp⟩: ∃v k,iH (σ.sd i).K v k:=by
      obtain⟨v,k,u,l,p1,p2,_,_⟩:=tu
      cases i
      . exact⟨v,k,p1⟩
      . exact⟨u,l,p2⟩
     have gh:=H fh
     have b6: ∀c∈boB d (ptrTo E) s t vPi X F vE σ,h0.n<=c:=fun c C=>(pB c C).elim (fun e=>by omega) (fun e=>Xa g0.n e)
     simp only [BS,LB,Nat.reduceLT,Nat.reduceEqDiff,Ff,r6,r7]
     refine step_ret (bstep_ok gh K W A b6 sP lP I (by omega) hp (eV i).1 (eV i).2) ?_
     rintro r Q ⟨f1,X',F',b7,A',e',a2⟩
     obtain⟨I',ke⟩:=stepB_I Y hA I hp.1
     have b8:(iS B.arcs (fun _=>true) (fun v=>z.getD v 0) i v (bQ σ i v)).ev.length<=σ.ev.length+200:=by
      have Q:=s9 (A:=B.arcs) (al:=fun _=>true) (pi:=fun v=>z.getD v 0) (b:=i) (v:=v) (outs B.arcs (fsB i) B.arcs.length v) (σ:=bQ σ i v)
      have R:(bQ σ i v).ev.length=σ.ev.length+1:=by simp [bQ]
      have h3:=lh B.arcs (fsB i) B.arcs.length v
      have:=K.many
      unfold iS
      omega
     have eO:((iS B.arcs (fun _=>true) (fun v=>z.getD v 0) i v (bQ σ i v)).sd false).O.length+((iS B.arcs (fun _=>true) (fun v=>z.getD v 0) i v (bQ σ i v)).sd true).O.length=(σ.sd false).O.length+(σ.sd true).O.length+1:=by
      have k1:=ke.O
      have k2:=ke.ot
      rw [clo_b]at k1
      rw [clo_n]at k2
      cases i
      . rw [k1,show((iS B.arcs (fun _=>true) (fun v=>z.getD v 0) false v (bQ σ false v)).sd true)=σ.sd true from k2]
        simp only [Xs,Xt]
        omega
      . rw [k1,show((iS B.arcs (fun _=>true) (fun v=>z.getD v 0) true v (bQ σ true v)).sd false)=σ.sd false from k2]
        simp only [Xs,Xt]
        omega
     have V: ∀τ,mM B.arcs (fun _=>true) (fun v=>z.getD v 0) (iS B.arcs (fun _=>true) (fun v=>z.getD v 0) i v (bQ σ i v)) τ->mM B.arcs (fun _=>true) (fun v=>z.getD v 0) (kC (fun v=>z.getD v 0) s t) τ:=fun τ h=>hEnd τ (.step tu hp h)
     generalize iS B.arcs (fun _=>true) (fun v=>z.getD v 0) i v (bQ σ i v)=τ at A' a2 I' b8 eO V
     have p1:=(I'.sv false).len
     have p2:=(I'.sv true).len
     have bv:Mo (· =d) hA' Q:=fh.trans f1 pB
     simp only [BS,LB,Nat.reduceLT,Nat.reduceEqDiff,r6]
     refine step_ret (wS bv.ok A' (I'.keyB Y) (I'.distLe Y)) ?_
     rintro r R ⟨g2,b9⟩
     simp only [BS,LB,Nat.reduceLT,Nat.reduceEqDiff]
     refine ih τ _ _ (by omega) ⟨X',F',b7,bv.trans (g2.fr (M:=NoM)) (fun _ h=>h.elim),A'.gr g2,fun c C=>(a2 c C).elim (pB c) (fun h=>.inr (Xa fh.n h)),fun j=>⟨(e' j).2.1.trans (eV j).1,(e' j).2.2.trans (eV j).2⟩,I',by omega,V,?_,by simp [aa,r0,ab],by simp [aa,r4,ab],by simp [aa,r6,ab]⟩
     rcases b9 with⟨a,rfl⟩|⟨j,a,rfl⟩
     . exact .inl ⟨a,by simp [aa]⟩
     . exact .inr ⟨j,a,by simp [aa,ab]⟩
 . refine⟨X2,F2,_,bs,A3,bo,br,I2,by rw [initB_ev];exact Xz _,fun τ h=>h,?_,by simp [aa,cL,ab],by simp [aa,ab],by simp [aa,ab]⟩
   rcases nx with⟨a,rfl⟩|⟨j,a,rfl⟩
   . exact .inl ⟨a,by simp [aa]⟩
   . exact .inr ⟨j,a,by simp [aa,ab]⟩
end Go.Ab

end
section
namespace Go.Ab
open Go.Proofs
set_option maxRecDepth 10000
def Tryz.F0R:=aj t1<|aj t2<|aj t3<|Z2
def Tryz.F0S:=aj t1<|aj t2<|aj t3<|Z2
def Tryz.F0T:=aj t1<|aj t2<|aj t3<|aj t24<|aj Z0<|aj t32<|aj t33<|aj t58<|aj t189<|aj Z1<|aj t192<|Z22
def Tryz.F0U:=aj t1<|aj t2<|aj t3<|aj t24<|aj Z0<|aj t32<|aj t33<|aj t58<|aj t189<|aj Z1<|aj t192<|Z22
theorem fromKey:KeyF zN 136 Arc.t:=by
 intro f a c
 have S:=Si c
 refine ae (n:=5) (rs:=[.tmp 2]) rfl Tryz.e136 rfl rfl rfl (lbt rfl) ?_
 simp only [BS,Nat.reduceLT,cE]
 refine ah (a8 (by intro x e;cases e)) S ?_;clear S;intro h b S d;simp only [ag]at S
 simp only [BS,LB,ac,Nat.reduceLT,Nat.reduceEqDiff,F0R,S.ld (b:=b) (o:=1) m0 rfl]
 exact S.gr
theorem toKey:KeyF zN 135 Arc.s:=by
 intro f a c
 have S:=Si c
 refine ae (n:=5) (rs:=[.tmp 2]) rfl Tryz.e135 rfl rfl rfl (lbt rfl) ?_
 simp only [BS,Nat.reduceLT,cE]
 refine ah (a8 (by intro x e;cases e)) S ?_;clear S;intro h b S d;simp only [ag]at S
 simp only [BS,LB,ac,Nat.reduceLT,Nat.reduceEqDiff,F0S,S.ld (b:=b) (o:=0) m0 rfl]
 exact S.gr
theorem fromNext{b:Gra}(a:Good b){pn:Value}:NextF zN 115 b pn Arc.s:=fun h f c d v e=>vt c d (by have:=a.many;omega) e
theorem toNext{b:Gra}(a:Good b){pn:Value}:NextF zN 117 b pn Arc.t:=fun h f c d v e=>yg c d (by have:=a.many;omega) e
theorem wG{h0:Hp}(A:h0.t.Sized h0.n){j:Gra}(f:Good j){pn:Value}{B:Nat}(C:bL h0 B pn j){s:Nat}(E:s<j.nodes):
 Ret zN 59 [pn,.int .i64 s] h0 fun r h'=>Gr h0 h'/\tM h' h0.n r (seen j.arcs Arc.s Arc.t) s j.nodes:=by
 have S:=Si A
 refine ae (n:=10) (rs:=[.cell 4 222]) rfl Tryz.e59 rfl rfl rfl (lbt rfl) ?_
 simp only [BS,F0T]
 refine ah aA S ?_;clear S;intro h k S p
 simp only [BS,LB,Nat.reduceLT,Nat.reduceEqDiff]
 have F:=S.fr.n
 have G:=(S.row (b:=k) m0).lt S.ok
 refine step_ret (yQ S.ok f (C.gr S.gr) E (fromNext f) fromKey (fun a H=>(f.arcs a H).2.1)) ?_;intro v h ⟨g,T⟩;replace S:=S.call g;clear g
 obtain⟨q,t,u,D,I,O,rfl,w,y,z,t4,t5,t6,t7,t8⟩:=T
 have J:=w.fl
 have K:=y.fl
 have L:=z.fl
 have l: ∀c,ar q c\/ar t c\/ar u c->c≠k:=fun c d e=>by have:=t6 c d;omega
 simp only [BS,LB,Nat.reduceLT,Nat.reduceEqDiff]
 refine aC (S.store (i:=0) rfl Tryz.t222.2.1 (by intro x e;cases e) rfl (by simp only [ag,XR,XV,J.2.1,K.2.1,L.2.1,Xj]) (lbt rfl) ono) ?_
 clear S;rintro h ⟨S,m⟩
 simp only [LC,ag,lay,Xn,Xo,Nat.reduceAdd]at S
 simp only [BS,ac]
 refine(eu (by decide) (by simp only [aO,ab,Nat.reduceEqDiff,reduceIte];exact cF Tryz.t222.1 Tryz.t222.2.1 (S.lds (b:=k) (o:=0) (n:=3) m0 (lbt rfl)))).2 (eJ.2 ?_)
 exact⟨S.gr,q,t,u,D,I,O,rfl,w.mo m (fun c d=>l c (.inl d)),y.mo m (fun c d=>l c (.inr (.inl d))),z.mo m (fun c d=>l c (.inr (.inr d))),t4,t5,fun c d=>Xa F (t6 c d),t7,t8⟩
theorem zH{h0:Hp}(A:h0.t.Sized h0.n){j:Gra}(f:Good j){pn:Value}{B:Nat}(C:bL h0 B pn j){s:Nat}(E:s<j.nodes):
 Ret zN 58 [pn,.int .i64 s] h0 fun r h'=>Gr h0 h'/\tM h' h0.n r (seen j.arcs Arc.t Arc.s) s j.nodes:=by
 have S:=Si A
 refine ae (n:=10) (rs:=[.cell 4 222]) rfl Tryz.e58 rfl rfl rfl (lbt rfl) ?_
 simp only [BS,F0U]
 refine ah aA S ?_;clear S;intro h k S p
 simp only [BS,LB,Nat.reduceLT,Nat.reduceEqDiff]
 have F:=S.fr.n
 have G:=(S.row (b:=k) m0).lt S.ok
 refine step_ret (yQ S.ok f (C.gr S.gr) E (toNext f) toKey (fun a H=>(f.arcs a H).1)) ?_;intro v h ⟨g,T⟩;replace S:=S.call g;clear g
 obtain⟨q,t,u,D,I,O,rfl,w,y,z,t4,t5,t6,t7,t8⟩:=T
 have J:=w.fl
 have K:=y.fl
 have L:=z.fl
 have l: ∀c,ar q c\/ar t c\/ar u c->c≠k:=fun c d e=>by have:=t6 c d;omega
 simp only [BS,LB,Nat.reduceLT,Nat.reduceEqDiff]
 refine aC (S.store (i:=0) rfl Tryz.t222.2.1 (by intro x e;cases e) rfl (by simp only [ag,XR,XV,J.2.1,K.2.1,L.2.1,Xj]) (lbt rfl) ono) ?_
 clear S;rintro h ⟨S,m⟩
 simp only [LC,ag,lay,Xn,Xo,Nat.reduceAdd]at S
 simp only [BS,ac]
 refine(eu (by decide) (by simp only [aO,ab,Nat.reduceEqDiff,reduceIte];exact cF Tryz.t222.1 Tryz.t222.2.1 (S.lds (b:=k) (o:=0) (n:=3) m0 (lbt rfl)))).2 (eJ.2 ?_)
 exact⟨S.gr,q,t,u,D,I,O,rfl,w.mo m (fun c d=>l c (.inl d)),y.mo m (fun c d=>l c (.inr (.inl d))),z.mo m (fun c d=>l c (.inr (.inr d))),t4,t5,fun c d=>Xa F (t6 c d),t7,t8⟩
end Go.Ab
end

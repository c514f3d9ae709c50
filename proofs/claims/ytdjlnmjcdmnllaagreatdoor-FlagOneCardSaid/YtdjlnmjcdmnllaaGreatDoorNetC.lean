/- Nets, cells, flags: what the functions do (part 3). -/
import Derived.Test.YtdjlnmjcdmnllaaGreatDoorNetB
open Go.Ab.Tryz renaming abEnv->xc,u38->xH,e3E->xV,s54->xW,s3->yg,u25->yo,s2->yx,e164E->yA,u52->yJ,a54->yK
open List renaming replicate->xd,mem_append_left->xf,getD_eq_getElem?_getD->xg,getElem?_eq_getElem->xh,mem_append_right->xi,flatMap_eq_foldl->xk,getElem?_eq_none->xn,getElem?_replicate->xp,range->xq,take->xu,drop->xw,ext_getElem?->xy,mem_of_getElem?->xz,mem_cons_of_mem->xA,drop_zero->xB,take_succ_eq_append_getElem->xC,length_take->xG,take_succ_cons->xI,getElem_mem->xL,map_eq_flatMap->xM,getElem?_map->xP,take_of_length_le->xQ,all_cons->xU,length_singleton->xX,length_replicate->xY,all_nil->yb,take_append_of_le_length->yd,flatMap_append->ye,length_append->yh,getElem?_set->ym,not_mem_nil->yq,append_nil->yt,range_succ->yv,take_zero->yy,getElem?_append->yz,range_eq_range'->yB,mem_cons->yC,map_cons->yD,take_replicate->yE,replicate_zero->yF,map_congr_left->yG,range'->yI
open Nat renaming le_trans->xe,lt_of_succ_le->xo,mul_one->xt,zero_add->xE,zero_mul->xF,zero_le->xJ,ble_eq_true_of_le->xK,lt_of_le_of_lt->xO,le_refl->xR,one_mul->xS,mul_le_mul_right->xZ,and_le_left->yc,testBit_two_pow->yf,lt_of_lt_of_le->yi,xor_lt_two_pow->yj,le_of_lt->yn,le_total->yp,min_eq_left->yu,testBit_and->yw,add_zero->yH,land->yL
open Int renaming toNat_natCast->xj,cast_ofNat_Int->xm,tmod_eq_emod_of_nonneg->yk,tdiv_eq_ediv_of_nonneg->yl
open Bool renaming and_true->xx
open Option renaming isSome_none->xN,map_some->ya,map_none->yr
set_option maxHeartbeats 4000000
set_option linter.defProp false
set_option linter.unusedVariables false
set_option linter.unusedSimpArgs false
section
namespace Go.Ab
open Go.Proofs
set_option maxRecDepth 10000
open Tryz in
def Tryz.FFt1365:=aj a1<|aj s1<|aj z1<|aj n1<|aj u2<|aj a2<|aj s2<|aj z2<|aj i2<|aj u3<|aj a3<|aj s3<|aj z3<|aj i3<|aj u4<|aj a4<|aj s4<|aj z4<|aj n4<|aj u5<|aj a5<|aj s5<|aj z5<|aj i5<|aj u6<|aj a6<|aj s6<|aj z6<|aj i6<|aj a7<|aj s7<|aj z7<|aj i7<|aj n7<|aj p7<|aj ff7<|aj d7<|aj a8<|aj s8<|aj z8<|aj i8<|aj n8<|aj p8<|aj ff8<|aj d8<|aj u9<|aj a9<|aj s9<|aj z9<|aj n9<|aj u38<|aj a38<|aj s38<|aj z38<|aj q38<|n38
open Tryz in
def Tryz.FFt1366:=aj a1<|aj s1<|aj z1<|aj n1<|aj u2<|aj a2<|aj s2<|aj z2<|aj i2<|aj u3<|aj a3<|aj s3<|aj z3<|aj i3<|aj u4<|aj a4<|aj s4<|aj z4<|aj n4<|aj u5<|aj a5<|aj s5<|aj z5<|aj i5<|aj u6<|aj a6<|aj s6<|aj z6<|aj i6<|aj a7<|aj s7<|aj z7<|aj i7<|aj n7<|aj p7<|aj ff7<|aj d7<|aj a8<|aj s8<|aj z8<|aj i8<|aj n8<|aj p8<|aj ff8<|aj d8<|aj u9<|aj a9<|aj s9<|aj z9<|aj n9<|aj a20<|aj s20<|aj z20<|aj q20<|aj n20<|aj u38<|aj a38<|aj s38<|aj z38<|aj q38<|n38
open Tryz in
def Tryz.FFt1325:=aj a1<|aj s1<|aj z1<|aj n1<|aj u2<|aj a2<|aj s2<|aj z2<|aj i2<|aj u3<|aj a3<|aj s3<|aj z3<|aj i3<|aj u4<|aj a4<|aj s4<|aj z4<|aj n4<|aj u5<|aj a5<|aj s5<|aj z5<|aj i5<|aj u6<|aj a6<|aj s6<|aj z6<|aj i6<|aj u30<|aj a30<|aj s30<|aj z30<|aj q30<|aj i30<|aj n30<|aj u38<|aj a38<|aj s38<|aj z38<|aj q38<|aj n38<|aj a117<|aj s117<|aj z117<|aj i117<|aj n117<|aj p117<|aj ff117<|d117
theorem norm_ok{h0:Hp}(ok:h0.t.Sized h0.n){l:List Int}{v:Value}(hv:aE h0 1 (encI .i64) v l)(hl:l.length<1000):
 Ret xc 53 [v] h0 fun r h'=>Gr h0 h'/\aE h' 1 (encI .i64) r (norm [] l)/\ ∀c,au r c->h0.n<=c:=by
 have S:=Si ok
 refine ac (n:=6) (rs:=[.tmp 2]) rfl Tryz.e53 rfl rfl rfl (lbt rfl) ?_
 simp only [BS,LB,Nat.reduceLT,Nat.reduceEqDiff]
 refine step_ret (namer_ok S.ok) ?_;intro v h ⟨g,bx,bm,ev,n1,n2,R,hg⟩;replace S:=S.call g;replace hv:=hv.gr g;clear g
 subst ev
 simp only [BS,LB,Nat.reduceLT,Nat.reduceEqDiff]
 refine step_ret (each_ok (ks:=[]) S.ok R hg hv hl) ?_
 rintro r h ⟨f,sl,hc⟩
 simp only [BS,LB,ae,Nat.reduceLT,Nat.reduceEqDiff]
 exact⟨(S.fr.trans f (fun i e=>.inr (by subst e;exact n2))).gr,sl,fun c h=>xe S.fr.n (hc c h)⟩
theorem tK {h0:Hp} (ok:h0.t.Sized h0.n) {u v:Value} {l m:List Int} (hu:aE h0 1 (encI .i64) u l) (hv:aE h0 1 (encI .i64) v m) (hl:l.length<1000000):bA xc 65 [u,v] h0 (.bool (decide (l=m))):=by
 have S:=Si ok
 by_cases hlen:l.length=m.length
 . have hle:((l.length:Int)=(m.length:Int)):=by omega
   refine ac (n:=26) (rs:=[.tmp 4]) rfl Tryz.e65 rfl rfl rfl (lbt rfl) ?_
   simp only [BS,LB,Nat.reduceLT,Nat.reduceEqDiff,Tryz.FFt1365,hu.lenq,hv.lenq,hle]
   refine aV (fun(i:Nat) ρ h=>i<=l.length/\l.take i=m.take i/\Gr h0 h/\ρ 0=u/\ρ 1=v/\ρ 12=.int .i64 l.length/\ρ 13=.int .i64 i) (fun i=>l.length-i) ?_ 0 _ _ ?_
   . clear S
     intro i ih ρ h ⟨hi,ht,S,r0,r1,r12,r13⟩
     by_cases hlt:i<l.length
     . obtain⟨c,o,hidx,hld⟩:=(hu.gr S).ix (kd:=.i64) (cu .i64) hlt
       obtain⟨c2,o2,hidx2,hld2⟩:=(hv.gr S).ix (kd:=.i64) (cu .i64) (hlen▸hlt)
       have w:ao .i64 ((i:Int)+1)=((i+1:Nat):Int):=by rw [wrap64]<;>omega
       by_cases he:l[i]=m[i]
       . simp only [BS,LB,Nat.reduceLT,Nat.reduceEqDiff,r12,r13,aG,hlt]
         refine aA (aI rfl) (q:=0) (ps:=[]) (by kernel_rfl) ?_
         simp only [BS,LB,cls,Nat.reduceLT,Nat.reduceEqDiff,Nat.reduceAdd,Nat.reducePow,Nat.reduceDiv,Nat.reduceMod,Nat.reduceLeDiff,Tryz.FFt1365,r0,r1,r13,hidx,hld,hidx2,hld2,encI,he,w]
         refine ih (i+1) _ _ (by omega) ⟨by omega,?_,S,by simp [aa,r0],by simp [aa,r1],by simp [aa,r12],by simp [aa]⟩
         rw [xC hlt,xC (hlen▸hlt),ht,he]
       . have hne:l≠m:=by rintro rfl;exact he rfl
         simp only [BS,LB,Nat.reduceLT,Nat.reduceEqDiff,r12,r13,aG,hlt]
         refine aA (aI rfl) (q:=0) (ps:=[]) (by kernel_rfl) ?_
         simp only [BS,LB,cls,ae,Nat.reduceLT,Nat.reduceEqDiff,Nat.reduceAdd,Nat.reducePow,Nat.reduceDiv,Nat.reduceMod,Nat.reduceLeDiff,Tryz.FFt1365,r0,r1,hidx,hld,hidx2,hld2,encI,he,hne]
         exact S
     . have hE:l=m:=by
        have e1:l.take i=l:=xQ (by omega)
        have e2:m.take i=m:=xQ (by omega)
        rw [e1,e2]at ht;exact ht
       subst hE
       simp only [BS,LB,ae,Nat.reduceLT,Nat.reduceEqDiff,r12,r13,aG,hlt]
       exact S
   . exact⟨xJ _,rfl,Gr.refl ok,by simp [aa,aQ],by simp [aa,aQ,bU],by simp [aa,hlen],by simp [aa]⟩
 . have hne:l≠m:=by rintro rfl;exact hlen rfl
   have hle: ¬((l.length:Int)=(m.length:Int)):=by omega
   refine ac (n:=26) (rs:=[.tmp 4]) rfl Tryz.e65 rfl rfl rfl (lbt rfl) ?_
   simp only [BS,LB,ae,Nat.reduceLT,Nat.reduceEqDiff,Tryz.FFt1365,hu.lenq,hv.lenq,hle,hne]
   exact S.gr
def eB:List Int->Int
 | []=>0
 |x::xs=>xs.foldl max x
theorem lmax_succ{l:List Int}{i:Nat}(h1:1<=i)(hlt:i<l.length):eB (l.take (i+1))=max (eB (l.take i)) l[i]:=by
 cases l with
 |nil=>cases hlt
 | cons x xs=>
   obtain⟨j,rfl⟩: ∃j,i=j+1:=⟨i-1,by omega⟩
   rw [xI,xI,eB,eB,List.getElem_cons_succ,xC (by simpa using hlt),List.foldl_append]
   rfl
theorem lmax_one{l:List Int}(h1:0<l.length):eB (l.take 1)=l[0]:=by
 cases l with
 |nil=>cases h1
 |cons x xs=>rfl
theorem maxInt_ok{h0:Hp}(ok:h0.t.Sized h0.n){v:Value}{l:List Int}(hv:aE h0 1 (encI .i64) v l)(h1:1<=l.length)(hl:l.length<1000000):bA xc 66 [v] h0 (.int .i64 (eB l)):=by
 have S:=Si ok
 have hnl: ¬((l.length:Int)<1):=by omega
 obtain⟨c,o,hidx,hld⟩:=hv.ix (kd:=.i64) (cu .i64) (i:=0) (by omega)
 have hidx':jy (some 1) v (.int .i64 0)=_:=hidx
 have l1:=lmax_one (l:=l) (by omega)
 generalize l[0]=x at hld l1
 refine ac (n:=25) (rs:=[.tmp 2]) rfl Tryz.e66 rfl rfl rfl (lbt rfl) ?_
 simp only [BS,LB,Nat.reduceLT,Nat.reduceEqDiff,Tryz.FFt1366,hv.lenq,hnl,hidx',hld,encI]
 refine aV (fun(i:Nat) ρ h=>1<=i/\i<=l.length/\Gr h0 h/\ρ 0=v/\ρ 3=.int .i64 (eB (l.take i))/\ρ 4=.int .i64 i) (fun i=>l.length-i) ?_ 1 _ _ ?_
 . clear S
   intro i ih ρ h ⟨h1,hi,S,r0,r3,r4⟩
   by_cases hlt:i<l.length
   . obtain⟨c,o,hidx,hld⟩:=(hv.gr S).ix (kd:=.i64) (cu .i64) hlt
     have w:ao .i64 ((i:Int)+1)=((i+1:Nat):Int):=by rw [wrap64]<;>omega
     have ls:=lmax_succ h1 hlt
     generalize l[i]=y at hld ls
     simp only [BS,LB,Nat.reduceLT,Nat.reduceEqDiff,Tryz.FFt1366,r0,r3,r4,(hv.gr S).lenq,aG,hlt,hidx,hld,encI,w]
     refine ih (i+1) _ _ (by omega) ⟨by omega,by omega,S,by simp [aa,r0],?_,by simp [aa]⟩
     simp only [aU,Nat.reduceEqDiff,reduceIte]
     rw [ls]
   . simp only [BS,LB,ae,Nat.reduceLT,Nat.reduceEqDiff,Tryz.FFt1366,r0,r3,r4,(hv.gr S).lenq,aG,hlt]
     have e:l.take i=l:=xQ (by omega)
     rw [e]
     exact⟨rfl,S⟩
 . exact⟨xR _,h1,Gr.refl ok,by simp [aa,aQ],by simp [aa,l1],by simp [aa]⟩
theorem ux(ks l:List Int):(norm ks l).length=l.length:=by
 induction l generalizing ks with
 |nil=>rfl
 |cons x xs ih=>show(norm _ xs).length+1=_;rw [ih];rfl
def hU(h:Hp)(n:Nat)(p:Value)(m:List Int):Prop:= ∃b v,p=ptrTo b/\Row h b [v,.int .i64 (eB m+1)] 1/\aE h 1 (encI .i64) v m/\n<=b/\ ∀c,au v c->n<=c
theorem hU.mo{M:Nat->Prop}{h h':Hp}{n:Nat}{p:Value}{m:List Int}(c:hU h n p m)(g:Mo M h h')(hm: ∀b,M b->b<n):hU h' n p m:=by
 obtain⟨b,v,e,r,s,n1,n2⟩:=c
 exact⟨b,v,e,g.has (o:=.row _ 1) r (fun h=>by have:=hm _ h;omega),s.mo g (fun c hc hM=>by have:=hm _ hM;have:=n2 c hc;omega),n1,n2⟩
theorem hU.gr{h h':Hp}{n:Nat}{p:Value}{m:List Int}(c:hU h n p m)(g:Gr h h'):hU h' n p m:=c.mo (M:=NoM) g.fr (fun _ h=>h.elim)
def cellNo(m:List Int):Prop:=m=[]\/norm [] m≠m\/256<eB m+1
theorem qk{h0:Hp}(ok:h0.t.Sized h0.n){v:Value}{m:List Int}(hv:aE h0 1 (encI .i64) v m)(hl:m.length<1000)(hb:0<=eB m/\eB m<=1000000):
 Ret xc 25 [v] h0 fun r h'=>Gr h0 h'/\((cellNo m/\r=.pointer none)\/(¬cellNo m/\hU h' h0.n r m)):=by
 have S:=Si ok
 have ln:=ux [] m
 by_cases h1:m=[]
 . subst h1
   refine ac (n:=27) (rs:=[.tmp 2]) rfl Tryz.e25 rfl rfl rfl (lbt rfl) ?_
   simp only [BS,LB,ae,Nat.reduceLT,Nat.reduceEqDiff,xm,Tryz.FFt1325,hv.lenq]
   exact⟨S.gr,.inl (.inl rfl)⟩
 . have h2:1<=m.length:=by cases m with
    |nil=>exact absurd rfl h1
    |cons a l=>simp
   have h3: ¬((m.length:Int)=0):=by omega
   refine ac (n:=27) (rs:=[.tmp 2]) rfl Tryz.e25 rfl rfl rfl (lbt rfl) ?_
   simp only [BS,LB,Nat.reduceLT,Nat.reduceEqDiff,Tryz.FFt1325,hv.lenq,h3]
   refine step_ret (norm_ok S.ok hv hl) ?_;intro v h ⟨g,sl,fr⟩;replace S:=S.call g;replace hv:=hv.gr g;clear g
   by_cases hn:norm [] m=m
   . simp only [BS,LB,Nat.reduceLT,Nat.reduceEqDiff]
     refine aq (tK S.ok sl hv (by omega)) ?_;intro h g;replace S:=S.call g;replace hv:=hv.gr g;clear g
     simp only [BS,LB,Nat.reduceLT,Nat.reduceEqDiff,hn]
     have kc:=S.fr.n
     refine step_ret (ke S.ok (cu .i64) hv (by omega)) ?_
     intro vc h ⟨g,sl2,fr2⟩;replace S:=S.call g;replace hv:=hv.gr g;clear g
     have fv:Fl vc:=sl2.fl
     simp only [BS,LB,Nat.reduceLT,Nat.reduceEqDiff]
     refine aq (maxInt_ok S.ok hv h2 (by omega)) ?_;intro h g;replace S:=S.call g;replace hv:=hv.gr g;replace sl2:=sl2.gr g;clear g
     have w:ao .i64 (eB m+1)=eB m+1:=by rw [wrap64]<;>omega
     have g0:=S.gr
     clear S;have S:=Si g0.ok
     simp only [BS,LB,Nat.reduceLT,Nat.reduceEqDiff,Nat.reduceAdd,Tryz.FFt1325,w,fv]
     refine ag (bR (by intro x e;cases e)) S ?_;clear S;intro h b S n_b;simp only [ah]at S
     have lb:=S.ld (b:=b) (o:=1) m0 rfl
     by_cases hbig:256<eB m+1
     . simp only [BS,LB,ae,Nat.reduceLT,Nat.reduceEqDiff,Tryz.FFt1325,hbig,lb]
       exact⟨g0.trans S.gr,.inl (.inr (.inr hbig))⟩
     . simp only [BS,LB,ae,Nat.reduceLT,Nat.reduceEqDiff,Tryz.FFt1325,hbig,lb]
       exact⟨g0.trans S.gr,.inr ⟨by rintro(h|h|h)<;>contradiction,b,vc,rfl,S.row m0,sl2.gr S.gr,xe g0.n n_b,fun c hc=>xe kc (fr2 c hc)⟩⟩
   . simp only [BS,LB,Nat.reduceLT,Nat.reduceEqDiff]
     refine aq (tK S.ok sl hv (by omega)) ?_;intro h g;replace S:=S.call g;replace hv:=hv.gr g;clear g
     simp only [BS,LB,ae,Nat.reduceLT,Nat.reduceEqDiff,hn]
     exact⟨S.gr,.inl (.inr (.inl hn))⟩
end Go.Ab
end
section
namespace Go.Ab
theorem Wk.trans{B:List Arc}{a b c x y:Nat}(h:Wk B a b x)(k:Wk B b c y):Wk B a c (x+y):=by
 induction k with
 |nil=>exact h
 | @snoc w e he _ ih=>exact Wk.snoc' ih he rfl rfl (by omega)
theorem Wk.back{B C:List Arc}(hBC: ∀a∈B,∃b∈C,b.s=a.t/\b.t=a.s/\b.w=a.w){m v w x y:Nat}(h:Wk B v w x)(k:Wk C m w y):Wk C m v (x+y):=by
 induction h generalizing y with
 |nil=>rw [xE];exact k
 | @snoc z e he _ ih=>
   obtain⟨b,hb,e1,e2,e3⟩:=hBC e he
   have:=ih (Wk.snoc' k hb e1 e2 rfl)
   rw [e3]at this
   rw [show z+e.w+y=z+(y+e.w) by omega];exact this
theorem IsD.wk{B:List Arc}{s v x w:Nat}(h:IsD B s v x)(k:Wk B s v w):x<FAR/\x<=w/\Wk B s v x:=by
 rcases h with⟨a,b,c⟩|⟨a,b⟩
 . exact⟨a,c w k,b⟩
 . exact absurd k (b w)
theorem IsD.far{B:List Arc}{s v x:Nat}(h:IsD B s v x)(hx:x<FAR):Wk B s v x:=by
 rcases h with⟨a,b,c⟩|⟨a,b⟩
 . exact b
 . omega
end Go.Ab

end
section
namespace Go.Ab
structure Ev where
 kind:Nat
 id:Nat
 lab:Nat
def iM(e:Ev):List Value:=[.int .i64 e.kind,.int .i64 0,.int .i64 e.id,.int .i64 e.lab]
theorem tS(e:Ev):(iM e).length=4:=rfl
structure SS where
 K:Nat->Option Int
 L:Nat->Nat
 P:Nat->List Nat
 O:List Nat
 ev:List Ev
structure Fd where
 dist:Nat
 arcs:List Nat
 ev:List Ev
def Pops(K:Nat->Option Int)(v:Nat)(k:Int):Prop:=K v=some k/\ ∀u k',K u=some k'->k<k'\/(k=k'/\v<=u)
theorem Pops.uniq{K:Nat->Option Int}{v u:Nat}{k k':Int}(h:Pops K v k)(g:Pops K u k'):v=u/\k=k':=by
 have a:=h.2 _ _ g.1
 have b:=g.2 _ _ h.1
 omega
def jf(P:Nat->List Nat)(v:Nat)(l:List Nat):Nat->List Nat:=fun u=>if u=v then l else P u
def dA(pi:Nat->Int)(σ:SS)(v lab:Nat)(p:List Nat):SS:=
 if v∈σ.O\/(FAR:Int)<=pi v\/((σ.K v).isSome=true/\σ.L v<=lab)then σ else⟨bV σ.K v (some (lab+pi v)),ck σ.L v lab,jf σ.P v p,σ.O,σ.ev⟩
def cR(σ:SS)(v:Nat):SS:=⟨bV σ.K v none,σ.L,σ.P,σ.O++[v],σ.ev++[⟨0,v,σ.L v⟩]⟩
def evS(σ:SS)(e:Ev):SS:=⟨σ.K,σ.L,σ.P,σ.O,σ.ev++[e]⟩
def scan1(A:List Arc)(al:Nat->Bool)(pi:Nat->Int)(v:Nat)(σ:SS)(a:Nat):SS:=
 if al a=true then dA pi (evS σ ⟨1,a,0⟩) (A.getD a default).t (σ.L v+(A.getD a default).w) (a::σ.P v)else σ
def ma(A:List Arc)(al:Nat->Bool)(pi:Nat->Int)(v:Nat)(σ:SS):SS:=(outs A Arc.s A.length v).foldl (scan1 A al pi v) σ
def fK(pi:Nat->Int)(s:Nat):SS:=dA pi ⟨fun _=>none,fun _=>0,fun _=>[],[],[]⟩ s 0 []
inductive Ends(A:List Arc)(al:Nat->Bool)(pi:Nat->Int)(to:Nat):SS->Fd->Prop where
 |none {σ:SS}:(∀v,σ.K v=none)->Ends A al pi to σ ⟨FAR,[],σ.ev⟩
 |hit {σ:SS} {k:Int}:Pops σ.K to k->Ends A al pi to σ ⟨σ.L to,(σ.P to).reverse,(cR σ to).ev⟩
 |step {σ:SS} {v:Nat} {k:Int} {r:Fd}:Pops σ.K v k->v≠to->Ends A al pi to (ma A al pi v (cR σ v)) r->Ends A al pi to σ r
theorem Ends.uniq{A:List Arc}{al:Nat->Bool}{pi:Nat->Int}{to:Nat}{σ:SS}{r q:Fd}(h:Ends A al pi to σ r)(g:Ends A al pi to σ q):r=q:=by
 induction h with
 | none hn=>
   cases g with
   |none _=>rfl
   |hit hp=>have:=hp.1;rw [hn]at this;cases this
   |step hp _ _=>have:=hp.1;rw [hn]at this;cases this
 | hit hp=>
   cases g with
   |none hn=>have:=hp.1;rw [hn]at this;cases this
   |hit _=>rfl
   |step hq hne _=>exact absurd (hq.uniq hp).1 hne
 | step hp hne _ ih=>
   cases g with
   |none hn=>have:=hp.1;rw [hn]at this;cases this
   |hit hq=>exact absurd (hp.uniq hq).1 hne
   | step hq _ hg=>
     obtain⟨rfl,_⟩:=hp.uniq hq
     exact ih hg
section
variable{A:List Arc}{N s:Nat}{al:Nat->Bool}{pi:Nat->Int}{σ:SS}
structure Sv(A:List Arc)(N s:Nat)(al:Nat->Bool)(pi:Nat->Int)(σ:SS):Prop where
 nd:σ.O.Nodup
 lt: ∀v∈σ.O,v<N
 op: ∀v k,σ.K v=some k->v<N/\v∉σ.O/\pi v<(FAR:Int)/\k=σ.L v+pi v
 bd: ∀v,σ.L v<=σ.O.length*cL/\(σ.P v).length<=σ.O.length
 pc: ∀v∈σ.O,pi v<(FAR:Int)
 path: ∀v,(v∈σ.O\/σ.K v≠none)->(v=s/\σ.P v=[]/\σ.L v=0)\/ ∃a,a<A.length/\al a=true/\(A.getD a default).t=v/\(A.getD a default).s∈σ.O/\σ.P v=a::σ.P (A.getD a default).s/\σ.L v=σ.L (A.getD a default).s+(A.getD a default).w
theorem Sv.len(h:Sv A N s al pi σ):σ.O.length<=N:=nj N σ.O h.nd h.lt
theorem Sv.evS(h:Sv A N s al pi σ)(e:Ev):Sv A N s al pi (evS σ e):=⟨h.nd,h.lt,h.op,h.bd,h.pc,h.path⟩
theorem sv_init(hs:s<N):Sv A N s al pi (fK pi s):=by
 unfold fK dA
 have z:Sv A N s al pi ⟨fun _=>none,fun _=>0,fun _=>[],[],[]⟩:=
  ⟨.nil,fun v h=>(by cases h),fun v k h=>(by cases h),fun v=>⟨xJ _,xJ _⟩,fun v h=>(by cases h),fun v h=>h.elim (fun h=>by cases h) (fun h=>absurd rfl h)⟩
 split
 . exact z
 . rename_i hc
   simp only [not_or]at hc
   refine⟨.nil,fun v h=>(by cases h),fun v k h=>?_,fun v=>⟨?_,?_⟩,fun v h=>(by cases h),fun v h=>?_⟩
   . simp only [bV,ck]at h⊢
     split at h
     . rename_i e;subst e;cases h
       exact⟨hs,by simp,by omega,by simp⟩
     . cases h
   . simp only [ck];split<;>simp
   . simp only [jf];split<;>simp
   . by_cases e:v=s
     . subst e;exact .inl ⟨rfl,by simp [jf],by simp [ck]⟩
     . simp [bV,e]at h
structure jt(σ τ:SS):Prop where
 O:τ.O=σ.O
 L: ∀u∈σ.O,τ.L u=σ.L u
 P: ∀u∈σ.O,τ.P u=σ.P u
theorem jt.refl:jt σ σ:=⟨rfl,fun _ _=>rfl,fun _ _=>rfl⟩
theorem jt.trans{τ υ:SS}(h:jt σ τ)(g:jt τ υ):jt σ υ:=
 ⟨g.O.trans h.O,fun u hu=>(g.L u (by rw [h.O];exact hu)).trans (h.L u hu),fun u hu=>(g.P u (by rw [h.O];exact hu)).trans (h.P u hu)⟩
theorem Sv.reach(h:Sv A N s al pi σ){a lab v:Nat}{p:List Nat}(ha:a<A.length)(hal:al a=true)(ht:(A.getD a default).t=v)(hN:v<N)(hs:(A.getD a default).s∈σ.O)(hl:lab=σ.L (A.getD a default).s+(A.getD a default).w)(hp:p=a::σ.P (A.getD a default).s)
 (b1:lab<=σ.O.length*cL) (b2:p.length<=σ.O.length):Sv A N s al pi (dA pi σ v lab p)/\jt σ (dA pi σ v lab p):=by
 unfold dA
 split
 . exact⟨h,.refl⟩
 . rename_i hc
   simp only [not_or]at hc
   obtain⟨c1,c2,c3⟩:=hc
   have q: ∀u∈σ.O,u≠v:=fun u hu e=>c1 (by subst e;exact hu)
   refine⟨⟨h.nd,h.lt,fun u k hk=>?_,fun u=>⟨?_,?_⟩,h.pc,fun u hu=>?_⟩,⟨rfl,fun u hu=>by simp [ck,q u hu],fun u hu=>by simp [jf,q u hu]⟩⟩
   . simp only [bV,ck]at hk⊢
     split at hk
     . rename_i e;subst e;cases hk
       exact⟨hN,c1,by omega,by simp⟩
     . rename_i e
       rw [if_neg e];exact h.op u k hk
   . simp only [ck];split
     . exact b1
     . exact(h.bd u).1
   . simp only [jf];split
     . exact b2
     . exact(h.bd u).2
   . have e1:ck σ.L v lab (A.getD a default).s=σ.L (A.getD a default).s:=if_neg (q _ hs)
     have e2:jf σ.P v p (A.getD a default).s=σ.P (A.getD a default).s:=if_neg (q _ hs)
     by_cases e:u=v
     . subst e
       refine .inr ⟨a,ha,hal,ht,hs,?_,?_⟩
       . show jf σ.P u p u=a::jf σ.P u p (A.getD a default).s
         rw [e2,<-hp];exact if_pos rfl
       . show ck σ.L u lab u=ck σ.L u lab (A.getD a default).s+(A.getD a default).w
         rw [e1,<-hl];exact if_pos rfl
     . have hu':u∈σ.O\/σ.K u≠none:=by simpa [bV,e]using hu
       rcases h.path u hu' with⟨k1,k2,k3⟩|⟨b,k1,k2,k3,k4,k5,k6⟩
       . exact .inl ⟨k1,by simp [jf,e,k2],by simp [ck,e,k3]⟩
       . refine .inr ⟨b,k1,k2,k3,k4,?_,?_⟩
         . simp only [jf,if_neg e,if_neg (q _ k4)];exact k5
         . simp only [ck,if_neg e,if_neg (q _ k4)];exact k6
theorem Sv.close(h:Sv A N s al pi σ){v:Nat}{k:Int}(hk:σ.K v=some k):Sv A N s al pi (cR σ v):=by
 obtain⟨o1,o2,o3,o4⟩:=h.op v k hk
 have hl:(σ.O++[v]).length*cL=σ.O.length*cL+cL:=by rw [yh,xX,Nat.succ_mul]
 refine⟨?_,fun u hu=>?_,fun u k' hu=>?_,fun u=>⟨?_,?_⟩,fun u hu=>?_,fun u hu=>?_⟩
 . show(σ.O++[v]).Nodup
   rw [List.nodup_append]
   exact⟨h.nd,by simp,fun a ha b hb e=>o2 (by simp at hb;subst hb;subst e;exact ha)⟩
 . rcases List.mem_append.1 hu with hu|hu
   . exact h.lt u hu
   . simp at hu;subst hu;exact o1
 . simp only [cR,bV]at hu⊢
   split at hu
   . cases hu
   . rename_i e
     obtain⟨a,b,c,d⟩:=h.op u k' hu
     exact⟨a,by simp [b,e],c,d⟩
 . show σ.L u<=(σ.O++[v]).length*cL
   rw [hl];have:=(h.bd u).1;omega
 . show(σ.P u).length<=(σ.O++[v]).length
   have:=(h.bd u).2;simp;omega
 . rcases List.mem_append.1 hu with hu|hu
   . exact h.pc u hu
   . simp at hu;subst hu;exact o3
 . have hu':u∈σ.O\/σ.K u≠none:=by
    by_cases e:u=v
    . subst e;exact .inr (by rw [hk];nofun)
    . simpa [cR,bV,e]using hu
   rcases h.path u hu' with hq|⟨b,k1,k2,k3,k4,k5,k6⟩
   . exact .inl hq
   . exact .inr ⟨b,k1,k2,k3,xf _ k4,k5,k6⟩
def Room(σ:SS)(v:Nat):Prop:=v∈σ.O/\σ.L v+cL<=σ.O.length*cL/\(σ.P v).length+1<=σ.O.length
theorem Room.keeps{τ:SS}{v:Nat}(r:Room σ v)(k:jt σ τ):Room τ v:=by
 obtain⟨a,b,c⟩:=r
 exact⟨by rw [k.O];exact a,by rw [k.O,k.L v a];exact b,by rw [k.O,k.P v a];exact c⟩
theorem Sv.room(h:Sv A N s al pi σ)(v:Nat):Room (cR σ v) v:=by
 have:=h.bd v
 refine⟨xi _ (by simp),?_,?_⟩
 . show σ.L v+cL<=(σ.O++[v]).length*cL
   rw [yh,xX,Nat.succ_mul];omega
 . show(σ.P v).length+1<=(σ.O++[v]).length
   simp;omega
theorem Sv.scan1(h:Sv A N s al pi σ)(hA: ∀a∈A,a.t<N/\a.w<=cL){v a:Nat}(r:Room σ v)(ha:a<A.length)(hv:(A.getD a default).s=v):Sv A N s al pi (scan1 A al pi v σ a)/\jt σ (scan1 A al pi v σ a):=by
 unfold Ab.scan1
 split
 . rename_i hal
   obtain⟨r1,r2,r3⟩:=r
   have ok:=hA (A.getD a default) (by rw [xg,xh ha];exact xL ha)
   subst hv
   obtain⟨h1,h2⟩:=(h.evS ⟨1,a,0⟩).reach (p:=a::σ.P (A.getD a default).s) (lab:=σ.L (A.getD a default).s+(A.getD a default).w) ha hal rfl ok.1 r1 rfl rfl (by show _<=σ.O.length*cL;omega) (by show(σ.P _).length+1<=σ.O.length;exact r3)
   exact⟨h1,⟨h2.O,h2.L,h2.P⟩⟩
 . exact⟨h,.refl⟩
theorem Sv.scanL(hA: ∀a∈A,a.t<N/\a.w<=cL){v:Nat}: ∀(l:List Nat) {σ:SS},Sv A N s al pi σ->Room σ v->(∀a∈l,a<A.length/\(A.getD a default).s=v)->Sv A N s al pi (l.foldl (Ab.scan1 A al pi v) σ)/\jt σ (l.foldl (Ab.scan1 A al pi v) σ)
 | [],_,h,_,_=>⟨h,.refl⟩
 | a::l,σ,h,r,hl=>by
   obtain⟨h1,h2⟩:=h.scan1 hA r (hl a (by simp)).1 (hl a (by simp)).2
   obtain⟨h3,h4⟩:=Sv.scanL hA l h1 (r.keeps h2) (fun b hb=>hl b (by simp [hb]))
   exact⟨h3,h2.trans h4⟩
theorem Sv.next(h:Sv A N s al pi σ)(hA: ∀a∈A,a.t<N/\a.w<=cL){v:Nat}{k:Int}(hk:σ.K v=some k):Sv A N s al pi (ma A al pi v (cR σ v))/\jt (cR σ v) (ma A al pi v (cR σ v)):=
 Sv.scanL hA _ (h.close hk) (h.room v) (fun _ ha=>eY.1 ha)

def InH(A:List Arc)(al:Nat->Bool)(pi:Nat->Int)(a:Nat):Prop:=al a=true/\pi (A.getD a default).s<(FAR:Int)/\pi (A.getD a default).t<(FAR:Int)
instance (a:Nat):Decidable (InH A al pi a):=by unfold InH;infer_instance
def jv(A:List Arc)(al:Nat->Bool)(pi:Nat->Int):List Arc:=((xq A.length).filter fun a=>decide (InH A al pi a)).map fun a=>A.getD a default
theorem oJ{a:Arc}:a∈jv A al pi↔ ∃i,i<A.length/\InH A al pi i/\A.getD i default=a:=by
 unfold jv
 simp only [List.mem_map,List.mem_filter,List.mem_range,decide_eq_true_eq,and_assoc]
def Feas(A:List Arc)(al:Nat->Bool)(pi:Nat->Int):Prop:= ∀i,i<A.length->InH A al pi i->pi (A.getD i default).s<=(A.getD i default).w+pi (A.getD i default).t
theorem Sv.wk(h:Sv A N s al pi σ): ∀(n:Nat) {v:Nat},(σ.P v).length<=n->(v∈σ.O\/σ.K v≠none)->Wk (jv A al pi) s v (σ.L v):=by
 have pv: ∀v,(v∈σ.O\/σ.K v≠none)->pi v<(FAR:Int):=fun v hv=>hv.elim (h.pc v) (fun hv=>by
  cases hk:σ.K v with
  |none=>exact absurd hk hv
  |some k=>exact(h.op v k hk).2.2.1)
 intro n
 induction n with
 | zero=>
   intro v hn hv
   rcases h.path v hv with⟨rfl,_,e⟩|⟨a,_,_,_,_,e,_⟩
   . rw [e];exact .nil
   . rw [e]at hn;simp at hn
 | succ n ih=>
   intro v hn hv
   rcases h.path v hv with⟨rfl,_,e⟩|⟨a,k1,k2,k3,k4,k5,k6⟩
   . rw [e];exact .nil
   . rw [k5]at hn
     rw [k6]
     exact Wk.snoc' (ih (v:=(A.getD a default).s) (by simpa using hn) (.inl k4)) (oJ.2 ⟨a,k1,⟨k2,h.pc _ k4,by rw [k3];exact pv v hv⟩,rfl⟩) rfl k3 rfl
structure Fe(A:List Arc)(s:Nat)(al:Nat->Bool)(pi:Nat->Int)(σ:SS)(ex:Nat->Prop):Prop where
 opt: ∀v∈σ.O,∀w,Wk (jv A al pi) s v w->σ.L v<=w
 fr: ∀a,a<A.length->InH A al pi a->(A.getD a default).s∈σ.O-> ¬ex a->(A.getD a default).t∈σ.O\/(σ.K (A.getD a default).t≠none/\σ.L (A.getD a default).t<=σ.L (A.getD a default).s+(A.getD a default).w)
 st:s∈σ.O\/(σ.K s≠none/\σ.L s=0)
theorem fe_init(hp:pi s<(FAR:Int)):Fe A s al pi (fK pi s) (fun _=>False):=by
 have e:fK pi s=⟨bV (fun _=>none) s (some ((0:Nat)+pi s)),ck (fun _=>0) s 0,jf (fun _=>[]) s [],[],[]⟩:=by
  unfold fK dA
  rw [if_neg (by simp;omega)]
 rw [e]
 exact⟨fun v h=>(by cases h),fun a _ _ h=>(by cases h),.inr ⟨by simp [bV],by simp [ck]⟩⟩
theorem Fe.front(f:Fe A s al pi σ (fun _=>False))(h:Sv A N s al pi σ)(hF:Feas A al pi){x w:Nat}(k:Wk (jv A al pi) s x w):x∈σ.O\/ ∃y,σ.K y≠none/\(σ.L y:Int)+pi y<=w+pi x:=by
 induction k with
 |nil=>exact f.st.imp (fun h=>h) (fun⟨a,b⟩=>⟨s,a,by rw [b];omega⟩)
 | @snoc w a ha hw ih=>
   obtain⟨i,hi,hh,rfl⟩:=oJ.1 ha
   have fe:=hF i hi hh
   rcases ih with ih|⟨y,h1,h2⟩
   . rcases f.fr i hi hh ih (fun h=>h)with h1|⟨h1,h2⟩
     . exact .inl h1
     . have:=f.opt _ ih _ hw
       exact .inr ⟨_,h1,by omega⟩
   . exact .inr ⟨y,h1,by omega⟩
theorem Fe.popped(f:Fe A s al pi σ (fun _=>False))(h:Sv A N s al pi σ)(hF:Feas A al pi){v:Nat}{k:Int}(hp:Pops σ.K v k):
 (∀w,Wk (jv A al pi) s v w->σ.L v<=w)/\ ∀x w,x∉σ.O->Wk (jv A al pi) s x w->(σ.L v:Int)+pi v<=w+pi x:=by
 have key: ∀x w,x∉σ.O->Wk (jv A al pi) s x w->(σ.L v:Int)+pi v<=w+pi x:=fun x w hx hw=>by
  rcases f.front h hF hw with h1|⟨y,h1,h2⟩
  . exact absurd h1 hx
  . cases hk:σ.K y with
    |none=>exact absurd hk h1
    | some k'=>
      have a:=(h.op y k' hk).2.2.2
      have b:=(h.op v k hp.1).2.2.2
      have c:=hp.2 y k' hk
      omega
 refine⟨fun w hw=>?_,key⟩
 have:=key v w (h.op v k hp.1).2.1 hw
 omega
theorem Fe.close(f:Fe A s al pi σ (fun _=>False))(h:Sv A N s al pi σ)(hF:Feas A al pi){v:Nat}{k:Int}(hp:Pops σ.K v k):Fe A s al pi (cR σ v) (fun a=>(A.getD a default).s=v):=by
 have pv:=(f.popped h hF hp).1
 refine⟨fun u hu=>?_,fun a ha hh hs hx=>?_,?_⟩
 . rcases List.mem_append.1 hu with hu|hu
   . exact f.opt u hu
   . simp at hu;subst hu;exact pv
 . rcases List.mem_append.1 hs with hs|hs
   . rcases f.fr a ha hh hs (fun h=>h)with h1|⟨h1,h2⟩
     . exact .inl (xf _ h1)
     . by_cases e:(A.getD a default).t=v
       . exact .inl (xi _ (List.mem_singleton.2 e))
       . exact .inr ⟨by simp only [cR,bV];rw [if_neg e];exact h1,h2⟩
   . simp at hs;exact absurd hs hx
 . rcases f.st with h1|⟨h1,h2⟩
   . exact .inl (xf _ h1)
   . by_cases e:s=v
     . exact .inl (xi _ (List.mem_singleton.2 e))
     . exact .inr ⟨by simp only [cR,bV];rw [if_neg e];exact h1,h2⟩
theorem Fe.reach{ex ex':Nat->Prop}(f:Fe A s al pi σ ex){a v lab:Nat}{p:List Nat}(ht:(A.getD a default).t=v)(hl:lab=σ.L (A.getD a default).s+(A.getD a default).w)(hx: ∀b,¬ex' b-> ¬ex b\/(b=a)):Fe A s al pi (dA pi σ v lab p) ex':=by
 unfold dA
 split
 . rename_i hc
   refine⟨f.opt,fun b hb hh hs hbx=>?_,f.st⟩
   rcases hx b hbx with h1|rfl
   . exact f.fr b hb hh hs h1
   . rw [ht]
     rcases hc with hc|hc|⟨h1,h2⟩
     . exact .inl hc
     . have:=hh.2.2;rw [ht]at this;omega
     . exact .inr ⟨fun e=>(by rw [e]at h1;cases h1),by omega⟩
 . rename_i hc
   simp only [not_or]at hc
   obtain⟨c1,c2,c4⟩:=hc
   have c3:=fun h1 h2=>c4 ⟨h1,h2⟩
   have q: ∀u∈σ.O,u≠v:=fun u hu e=>c1 (by subst e;exact hu)
   refine⟨fun u hu=>?_,fun b hb hh hs hbx=>?_,?_⟩
   . simp only [ck,if_neg (q u hu)];exact f.opt u hu
   . simp only [ck,bV,if_neg (q _ hs)]
     by_cases e:(A.getD b default).t=v
     . right
       simp only [e,if_true]
       refine⟨by nofun,?_⟩
       rcases hx b hbx with h1|rfl
       . rcases f.fr b hb hh hs h1 with h2|⟨h2,h3⟩
         . rw [e]at h2;exact absurd h2 c1
         . rw [e]at h2 h3
           have: ¬σ.L v<=lab:=c3 (by cases hk:σ.K v with|none=>exact absurd hk h2|some k=>rfl)
           omega
       . omega
     . simp only [if_neg e]
       rcases hx b hbx with h1|rfl
       . exact f.fr b hb hh hs h1
       . exact absurd ht e
   . rcases f.st with h1|⟨h1,h2⟩
     . exact .inl h1
     . by_cases e:s=v
       . subst e
         have: ¬σ.L s<=lab:=c3 (by cases hk:σ.K s with|none=>exact absurd hk h1|some k=>rfl)
         omega
       . exact .inr ⟨by simp only [bV,if_neg e];exact h1,by simp only [ck,if_neg e];exact h2⟩
theorem Fe.exm{ex ex':Nat->Prop}(f:Fe A s al pi σ ex)(h: ∀a,a<A.length->ex a->ex' a):Fe A s al pi σ ex':=
 ⟨f.opt,fun a ha hh hs hx=>f.fr a ha hh hs (fun he=>hx (h a ha he)),f.st⟩
theorem Fe.scan1{ex ex':Nat->Prop}(f:Fe A s al pi σ ex){a v:Nat}(hv:(A.getD a default).s=v)(hx: ∀b,¬ex' b-> ¬ex b\/(b=a)):Fe A s al pi (scan1 A al pi v σ a) ex':=by
 unfold Ab.scan1
 split
 . subst hv
   exact Fe.reach (σ:=evS σ ⟨1,a,0⟩) ⟨f.opt,f.fr,f.st⟩ rfl rfl hx
 . rename_i hal
   refine⟨f.opt,fun b hb hh hs hbx=>?_,f.st⟩
   rcases hx b hbx with h|rfl
   . exact f.fr b hb hh hs h
   . exact absurd hh.1 hal
theorem Fe.scanL{v:Nat}: ∀(l:List Nat) {σ:SS},Fe A s al pi σ (· ∈l)->(∀a∈l,(A.getD a default).s=v)->Fe A s al pi (l.foldl (Ab.scan1 A al pi v) σ) (fun _=>False)
 | [],_,f,_=>f.exm (fun a _ h=>by cases h)
 |a::l,σ,f,hl=>Fe.scanL l (f.scan1 (a:=a) (hl a (by simp)) (fun b hb=>by by_cases e:b=a;exact .inr e;exact .inl (by simp [e,hb]))) (fun b hb=>hl b (by simp [hb]))
theorem Fe.next(f:Fe A s al pi σ (fun _=>False))(h:Sv A N s al pi σ)(hF:Feas A al pi){v:Nat}{k:Int}(hp:Pops σ.K v k):Fe A s al pi (ma A al pi v (cR σ v)) (fun _=>False):=
 Fe.scanL _ ((f.close h hF hp).exm fun a ha hs=>eY.2 ⟨ha,hs⟩) (fun a ha=>(eY.1 ha).2)
theorem ends_isD{to:Nat}{r:Fd}(hA: ∀a∈A,a.t<N/\a.w<=cL)(hN:N<=12)(hF:Feas A al pi)(he:Ends A al pi to σ r):Sv A N s al pi σ->Fe A s al pi σ (fun _=>False)->to∉σ.O->IsD (jv A al pi) s to r.dist:=by
 induction he with
 | none hn=>
   intro h f ht
   refine .inr ⟨rfl,fun w hw=>?_⟩
   rcases f.front h hF hw with h1|⟨y,h1,_⟩
   . exact ht h1
   . exact h1 (hn y)
 | @hit σ k hp=>
   intro h f ht
   have h1:=h.wk _ (xR _) (v:=to) (.inr (by rw [hp.1];nofun))
   have h2:=(h.bd to).1
   have h3:=xZ cL (xe h.len hN)
   have:=iP
   have:=jM
   exact .inl ⟨by show σ.L to<FAR;omega,h1,(f.popped h hF hp).1⟩
 | @step σ v k r hp hne _ ih=>
   intro h f ht
   obtain⟨h1,h2⟩:=h.next hA hp.1
   refine ih h1 (f.next h hF hp) ?_
   rw [h2.O]
   intro hm
   rcases List.mem_append.1 hm with hm|hm
   . exact ht hm
   . simp at hm;exact hne hm.symm
theorem hArcs_all{a:Arc}:a∈jv A (fun _=>true) (fun _=>0)↔a∈A:=by
 rw [oJ]
 constructor
 . rintro⟨i,hi,_,rfl⟩
   rw [xg,xh hi];exact xL hi
 . intro ha
   obtain⟨i,hi,rfl⟩:=List.mem_iff_getElem.1 ha
   have:=iP
   exact⟨i,hi,⟨rfl,by show(0:Int)<_;omega,by show(0:Int)<_;omega⟩,by simp [xg,hi]⟩
theorem Wk.mono{B C:List Arc}(hm: ∀a∈B,a∈C){v w:Nat}(h:Wk B s v w):Wk C s v w:=by
 induction h with
 |nil=>exact .nil
 |snoc ha _ ih=>exact .snoc (hm _ ha) ih
theorem IsD.congr{B C:List Arc}(hm: ∀a,a∈B↔a∈C){v x:Nat}(h:IsD B s v x):IsD C s v x:=by
 rcases h with⟨a,b,c⟩|⟨a,b⟩
 . exact .inl ⟨a,b.mono fun a=>(hm a).1,fun w hw=>c w (hw.mono fun a=>(hm a).2)⟩
 . exact .inr ⟨a,fun w hw=>b w (hw.mono fun a=>(hm a).2)⟩
end
end Go.Ab

end
section
namespace Go.Ab
theorem tW{E:Env}{t e:TypeId}{b n N:Nat}{kd:IntKind}(hu:E.und t=some (.slice e))(hs:E.sz e=some 1)(hn:n<N):eA E t (.slice (some ⟨b,0,none⟩) N N) (some (.int kd (n:Int))) none none=some (.slice (some ⟨b,n,none⟩) (N-n) (N-n)):=by
 have nat: ∀n:Nat,fg (n:Int)=some n:=fun n=>rfl
 have hb:Nat.beq N n=false:=by
  cases h:Nat.beq N n with
  |false=>rfl
  |true=>have:=Nat.eq_of_beq_eq_true h;omega
 simp only [eA,hu,dX,dS,nat,xK (yn hn),cond_true,hs,xN,cond_false,hb,dK,xt,xE]
theorem sh{E:Env}{t e:TypeId}{b n N k:Nat}{kd:IntKind}(hu:E.und t=some (.slice e))(hs:E.sz e=some k)(hn:n<=N):eA E t (.slice (some ⟨b,0,none⟩) N N) none (some (.int kd (n:Int))) none=some (.slice (some ⟨b,0,none⟩) n N):=by
 have nat: ∀n:Nat,fg (n:Int)=some n:=fun n=>rfl
 simp only [eA,hu,dX,dS,nat,xK hn,cond_true,hs,xN,cond_false,dK,xF,yH,Nat.sub_zero]
 cases Nat.beq N 0<;>rfl
section
variable{M:Nat->Prop}{h0 h:Hp}{L:List (Nat×Ob)}{G:List GL}{E:Env}{t e:TypeId}
theorem St.copyO(S:St M h0 h L G){i b o len cap b2 o2 m c2:Nat}{sp sp2:Option Nat}{cs l:List Value}(hi:L[i]? =some (b,.row cs 1))(hu:E.und t=some (.slice e))(hs:E.sz e=some 1)(hm:0<di m len)(hl:h.load b2 o2 (di m len*1)=some l)(hll:o+l.length<=cs.length)(hf:l.all ii=true){ts:List TypeId}:
 ∃h' w,copyV E h (t::ts) (.slice (some ⟨b,o,sp⟩) len cap) (.slice (some ⟨b2,o2,sp2⟩) m c2)=some (h',w)/\w=.int .i64 (di m len:Nat)/\St M h0 h' (L.set i (b,.row (lay cs o l) 1)) G:=by
 obtain⟨y,h1,h2⟩:=(S.row (xz hi)).store S.ok ono (o:=o) (vs:=l) hll hf
 have len1:=load_len hl
 refine⟨h.put b y,_,?_,rfl,S.put hi h2⟩
 simp only [copyV,hu,hs,hl]
 cases l with
 |nil=>simp at len1;omega
 |cons x xs=>simp only [h1];rfl
end
theorem hZ{a b:Nat}(h:a<=b):di a b=a:=by unfold di;rw [xK h];rfl
theorem pj{a b:Nat}(h:b<=a):di a b=b:=by
 unfold di
 cases hb:Nat.ble a b with
 |false=>rfl
 |true=>have:=lbt hb;show a=b;omega
theorem po{X Z:Value}{n c k:Nat}(hk:c<=k):lay (xd n X++xd k Z) n (xd c X)=xd (n+c) X++xd (k-c) Z:=by
 refine xy fun j=>?_
 rw [gT (by simp;omega),xY,yz,yz,xY,xY,xp,xp,xp,xp,xp]
 by_cases h1:j<n
 . rw [if_neg (by omega),if_pos h1,if_pos h1,if_pos (by omega),if_pos (by omega)]
 . by_cases h2:j<n+c
   . rw [if_pos (by omega),if_pos (by omega),if_pos h2,if_pos h2]
   . rw [if_neg (by omega),if_neg h1,if_neg h2]
     by_cases h3:j-n<k
     . rw [if_pos h3,if_pos (by omega)]
     . rw [if_neg h3,if_neg (by omega)]
theorem jS(z:Value): ∀n,aP [z] n=xd n z
 |0=>rfl
 |n+1=>by simp [aP,jS z n,List.replicate_succ]
def ClF(O:List Nat)(f:Int->Option Value):Prop:= ∀u:Nat,f (u:Int)=if u∈O then some (.int .i64 1)else none
end Go.Ab

end
section
namespace Go.Ab
section
variable{M:Nat->Prop}{h0 h h':Hp}{L L':List (Nat×Ob)}{G G':List GL}{Fh:List Nat}
theorem St.baseF(S:St M h0 h L G)(Fh:List Nat):St (fun c=>c∈keys L G\/c∈Fh) h h L G:=
 ⟨Mo.refl S.ok,fun p hp=>⟨.inr (.inl (gc hp)),(S.own p hp).2⟩,fun p hp=>⟨(S.gown p hp).1,fun b hb=>.inr (.inl (eI hp hb))⟩,S.apart⟩
theorem St.rebaseF(S:St M h0 h L G)(hF: ∀c∈Fh,h0.n<=c\/M c)(T:St (fun c=>c∈keys L G\/c∈Fh) h h' L' G'):St M h0 h' L' G':=by
 have hk: ∀b,h.n<=b\/(b∈keys L G\/b∈Fh)->h0.n<=b\/M b:=fun b hb=>hb.elim (fun hb=>.inl (xe S.fr.n hb)) (fun hb=>hb.elim S.key_own (hF b))
 exact⟨S.fr.trans T.fr fun b hb=>(hb.elim S.key_own (hF b)).symm,fun p hp=>⟨hk _ (T.own p hp).1,(T.own p hp).2⟩,fun p hp=>⟨(T.gown p hp).1,fun b hb=>hk b ((T.gown p hp).2 b hb)⟩,T.apart⟩
theorem St.callF(S:St M h0 h L G){i b:Nat}{o o':Ob}(hi:L[i]? =some (b,o))(f:Mo (fun c=>c∈Fh\/c=b) h h')(hF: ∀c∈Fh,(M c\/h0.n<=c)/\c∉keys L G)(ho:Has h' b o'):St M h0 h' (L.set i (b,o')) G:=by
 have hb:=S.own _ (xz hi)
 have hkey:(keys L G)[i]? =some b:=lh hi
 refine⟨S.fr.trans f (fun c hc=>by rcases hc with hc|rfl;exact(hF c hc).1;exact hb.1.symm),fun p hp=>?_,fun p hp=>⟨(S.gown p hp).1.of_get fun c hc=>?_,(S.gown p hp).2⟩,?_⟩
 . rcases jq hp with rfl|⟨j,hj,hp⟩
   . exact⟨hb.1,ho⟩
   . have h1:=S.own p (xz hp)
     refine⟨h1.1,h1.2.of_get (f.get _ (h1.2.lt S.ok) fun e=>?_)⟩
     rcases e with e|e
     . exact(hF _ e).2 (gc (xz hp))
     . apply hj
       have h2:(keys L G)[j]? =some b:=by rw [lh hp];rw [e]
       exact lQ S.apart h2 hkey
 . refine f.get c ((S.gown p hp).1.lt S.ok hc) fun e=>?_
   rcases e with e|e
   . exact(hF _ e).2 (eI hp hc)
   . subst e
     have h1:=S.apart
     unfold keys at h1
     rw [List.nodup_append]at h1
     exact h1.2.2 c (List.mem_map.2 ⟨_,xz hi,rfl⟩) c (List.mem_filterMap.2 ⟨p,hp,hc⟩) rfl
 . have:keys (L.set i (b,o')) G=keys L G:=by
    unfold keys
    congr 1
    rw [List.map_set]
    refine xy fun j=>?_
    rw [ym]
    split
    . rename_i e;subst e
      have:=(List.getElem?_eq_some_iff.1 hi).1
      rw [if_pos (by simpa using this),xP,hi];rfl
    . rfl
   rw [this];exact S.apart
theorem St.stepF(S:St M h0 h L G)(f:Mo (· ∈Fh) h h')(hF: ∀c∈Fh,(M c\/h0.n<=c)/\c∉keys L G):St M h0 h' L G:=
 S.step f (fun c hc=>(hF c hc).1) (fun c hc hm=>(hF c hm).2 hc)
theorem St.permL(S:St M h0 h L G)(p:L'.Perm L):St M h0 h L' G:=
 ⟨S.fr,fun x hx=>S.own x (p.mem_iff.1 hx),S.gown,by
  have:(keys L' G).Perm (keys L G):=(p.map Prod.fst).append_right _
  exact this.nodup_iff.2 S.apart⟩
end
theorem St.mono{M M':Nat->Prop}{h0 h:Hp}{L:List (Nat×Ob)}{G:List GL}(S:St M h0 h L G)(hm: ∀b,M b->M' b):St M' h0 h L G:=
 ⟨S.fr.mono hm,fun p hp=>⟨(S.own p hp).1.imp (fun h=>h) (hm _),(S.own p hp).2⟩,fun p hp=>⟨(S.gown p hp).1,fun b hb=>((S.gown p hp).2 b hb).imp (fun h=>h) (hm _)⟩,S.apart⟩
theorem Dj.exm{B:List Arc}{s N:Nat}{O:List Nat}{D:Nat->Nat}{K:Nat->Option Int}{ex ex':Arc->Prop}(d:Dj B s N O D K ex)(h: ∀a∈B,ex a->ex' a):Dj B s N O D K ex':=
 ⟨d.i1,d.i2,d.i2f,d.i3,fun a ha hs hx=>d.i4 a ha hs (fun hh=>hx (h a ha hh)),d.i5,d.nd,d.lt⟩
def noteSl:Value->Option Tch
 | .map (some r)=>some (.blk r)
 | .slice (some a) _ _=>some (.blk a.block)
 |_=>none
theorem tY{ρ:Operand->Value}{b:Bool}{x y:Operand}{ts:Array TypeId}{h h':Hp}:bK ρ b (.call ⟨.builtin .append,#[x,y],ts⟩) h h'=noteSl (ρ x):=by
 simp only [bK,cV,gQ,dB,touch,cond_false]
 cases ρ x<;>first|rfl|(rename_i x;cases x<;>rfl)|(rename_i x _ _;cases x<;>rfl)
theorem pair_x{x:Option Tch}:gP x none=true:=by
 cases x with
 |none=>rfl
 |some b=>cases b<;>rfl
theorem entry_nl{i:Nat}:bg i []=none:=rfl
end Go.Ab

end
section
namespace Go.Ab
open Go.Proofs
set_option maxRecDepth 10000
open Tryz in
def Tryz.FFs1133:=aj a1<|aj s1<|aj z1<|aj n1<|aj u2<|aj a2<|aj s2<|aj z2<|aj i2<|aj u3<|aj a3<|aj s3<|aj z3<|aj i3<|aj u4<|aj a4<|aj s4<|aj z4<|aj n4<|aj u5<|aj a5<|aj s5<|aj z5<|aj i5<|aj u6<|aj a6<|aj s6<|aj z6<|aj i6<|aj u25<|aj a25<|aj s25<|aj z25<|aj q25<|aj n25<|aj u29<|aj a29<|aj s29<|aj z29<|aj q29<|aj i29<|aj n29<|aj u38<|aj a38<|aj s38<|aj z38<|aj q38<|aj n38<|aj u43<|aj a43<|aj s43<|aj z43<|aj q43<|aj n43<|aj u52<|aj a52<|aj s52<|aj z52<|aj q52<|aj n52<|aj u55<|aj a55<|aj s55<|aj z55<|aj i55<|aj a124<|aj s124<|aj z124<|aj n124<|aj u127<|aj a127<|aj s127<|aj z127<|aj q127<|aj i127<|aj n127<|aj a164<|aj s164<|aj z164<|aj i164<|aj n164<|aj p164<|aj ff164<|aj d164<|aj a192<|aj s192<|aj z192<|aj i192<|aj n192<|aj p192<|aj ff192<|aj d192<|aj u198<|aj a198<|aj s198<|aj z198<|aj q198<|aj i198<|aj n198<|aj a200<|aj s200<|aj z200<|aj n200<|aj a202<|aj s202<|aj z202<|aj i202<|aj n202<|aj p202<|aj ff202<|aj d202<|aj a266<|aj s266<|aj z266<|aj i266<|aj n266<|aj p266<|aj ff266<|aj d266<|aj a268<|aj s268<|aj z268<|aj i268<|aj n268<|aj p268<|aj ff268<|d268
def labC(N:Nat)(L:Nat->Nat):List Value:=(xq N).map fun v=>.int .i64 (L v:Nat)
def byI:List Nat->Int
 | []=> -1
 |a::_=>(a:Nat)
def byC(N:Nat)(P:Nat->List Nat):List Value:=(xq N).map fun v=>.int .i64 (byI (P v))
def clC(N:Nat)(O:List Nat):List Value:=(xq N).map fun v=>.bool (decide (v∈O))
theorem oR{N v:Nat}{L:Nat->Nat}(h:v<N):(labC N L)[v]? =some (.int .i64 (L v:Nat)):=gZ (F:=fun v=>Value.int .i64 ((L v:Nat):Int)) h
theorem byC_at{N v:Nat}{P:Nat->List Nat}(h:v<N):(byC N P)[v]? =some (.int .i64 (byI (P v))):=gZ (F:=fun v=>Value.int .i64 (byI (P v))) h
theorem clC_at{N v:Nat}{O:List Nat}(h:v<N):(clC N O)[v]? =some (.bool (decide (v∈O))):=gZ (F:=fun v=>Value.bool (decide (v∈O))) h
theorem tX{N:Nat}{L:Nat->Nat}:(labC N L).length=N:=by simp [labC]
theorem byC_len{N:Nat}{P:Nat->List Nat}:(byC N P).length=N:=by simp [byC]
theorem clC_len{N:Nat}{O:List Nat}:(clC N O).length=N:=by simp [clC]
theorem labC_set{N v x:Nat}{L:Nat->Nat}:(labC N L).set v (.int .i64 (x:Nat))=labC N (ck L v x):=by
 have:=gw (N:=N) (k:=v) (F:=fun v=>Value.int .i64 ((L v:Nat):Int)) (F':=fun u=>Value.int .i64 ((ck L v x u:Nat):Int)) (fun i _ hi=>by simp [ck,hi])
 unfold labC
 rw [<-this];simp [ck]
theorem byC_set{N v:Nat}{P:Nat->List Nat}{p:List Nat}:(byC N P).set v (.int .i64 (byI p))=byC N (jf P v p):=by
 have:=gw (N:=N) (k:=v) (F:=fun v=>Value.int .i64 (byI (P v))) (F':=fun u=>Value.int .i64 (byI (jf P v p u))) (fun i _ hi=>by simp [jf,hi])
 unfold byC
 rw [<-this];simp [jf]
theorem clC_set{N v:Nat}{O:List Nat}:(clC N O).set v (.bool true)=clC N (O++[v]):=by
 have:=gw (N:=N) (k:=v) (F:=fun v=>Value.bool (decide (v∈O))) (F':=fun u=>Value.bool (decide (u∈O++[v]))) (fun i _ hi=>by simp [hi])
 unfold clC
 rw [<-this];simp
def srL(br bl bb bk N:Nat)(pn p fal fpi vE:Value)(σ:SS):List (Nat×Ob):=
 [(br,.row [pn,p,.slice (some ⟨bl,0,none⟩) N N,.slice (some ⟨bb,0,none⟩) N N,.slice (some ⟨bk,0,none⟩) N N,fal,fpi,vE] 1),(bl,.row (labC N σ.L) 1),(bb,.row (byC N σ.P) 1),(bk,.row (clC N σ.O) 1)]
def srG(vE:Value)(σ:SS):List GL:=[(vE,4,σ.ev.flatMap iM)]
def eo(h:Hp)(B:List Nat)(br:Nat)(pn fal fpi:Value)(N:Nat)(σ:SS):Prop:=
 ∃bl bb bk p F vE,B=keys (srL br bl bb bk N pn (ptrTo p) fal fpi vE σ) (srG vE σ)++F/\(∀q∈srL br bl bb bk N pn (ptrTo p) fal fpi vE σ,Has h q.1 q.2)/\ew h (vE,4,σ.ev.flatMap iM)/\(keys (srL br bl bb bk N pn (ptrTo p) fal fpi vE σ) (srG vE σ)).Nodup/\cj h F (ptrTo p) N σ.K/\ ∀c∈F,c∉keys (srL br bl bb bk N pn (ptrTo p) fal fpi vE σ) (srG vE σ)
theorem St.ofHas{M:Nat->Prop}{h:Hp}{L:List (Nat×Ob)}{G:List GL}(ok:h.t.Sized h.n)(hL: ∀q∈L,Has h q.1 q.2)(hG: ∀p∈G,ew h p)(nd:(keys L G).Nodup)(hM: ∀c∈keys L G,M c):St M h h L G:=
 ⟨Mo.refl ok,fun p hp=>⟨.inr (hM _ (gc hp)),hL p hp⟩,fun p hp=>⟨hG p hp,fun b hb=>.inr (hM _ (eI hp hb))⟩,nd⟩
theorem eo.mo{M:Nat->Prop}{h h':Hp}{B:List Nat}{br N:Nat}{pn fal fpi:Value}{σ:SS}(r:eo h B br pn fal fpi N σ)(g:Mo M h h')(hm: ∀b∈B,¬M b):eo h' B br pn fal fpi N σ:=by
 obtain⟨bl,bb,bk,p,F,vE,rfl,h1,h2,h3,h4,h5⟩:=r
 refine⟨bl,bb,bk,p,F,vE,rfl,fun q hq=>g.has (h1 q hq) (hm _ (xf _ (gc hq))),h2.of_get fun b hb=>g.get b (h2.lt g.ok0 hb) (hm b (xf _ (eI (p:=(vE,4,σ.ev.flatMap iM)) m0 hb))),h3,h4.mo g (fun b hb=>hm b (xi _ hb)),h5⟩
theorem eo.gr{h h':Hp}{B:List Nat}{br N:Nat}{pn fal fpi:Value}{σ:SS}(r:eo h B br pn fal fpi N σ)(g:Gr h h'):eo h' B br pn fal fpi N σ:=r.mo (M:=NoM) g.fr (fun _ _ h=>h)
theorem eo.lt{h:Hp}(ok:h.t.Sized h.n){B:List Nat}{br N:Nat}{pn fal fpi:Value}{σ:SS}(r:eo h B br pn fal fpi N σ): ∀c∈B,c<h.n:=by
 obtain⟨bl,bb,bk,p,F,vE,rfl,h1,h2,h3,h4,h5⟩:=r
 intro c hc
 rcases List.mem_append.1 hc with hc|hc
 . exact(St.ofHas (M:=fun _=>True) ok h1 (fun p hp=>by cases hp with|head=>exact h2|tail _ h=>cases h) h3 (fun _ _=>trivial)).key_lt hc
 . exact h4.lt ok c hc
theorem Gr.mo'{hq h h':Hp}{B:List Nat}(g:Gr hq h)(f:Mo (· ∈B) h h')(hB: ∀c∈B,hq.n<=c):Gr hq h':=((g.fr (M:=NoM)).trans f (fun i hi=>.inr (hB i hi))).gr
def PiF(E:Env)(hq:Hp)(g:FuncId)(ba N:Nat)(pi:Nat->Int):Prop:= ∀h,Gr hq h-> ∀v,v<N->bA E g [.int .i64 (v:Nat),ptrTo ba] h (.int .i64 (pi v))
def AlF(E:Env)(hq:Hp)(g:FuncId)(ba n:Nat)(al:Nat->Bool):Prop:= ∀h,Gr hq h-> ∀a,a<n->bA E g [.int .i64 (a:Nat),ptrTo ba] h (.bool (al a))
theorem sH {hq h0:Hp} (gq:Gr hq h0) {B:List Nat} {br N ba v lab:Nat} {p:List Nat} {g2:FuncId} {pn fal:Value} {σ:SS} {pi:Nat->Int} (R:eo h0 B br pn fal (.func (.func g2) #[] #[ptrTo ba]) N σ) (hpi:PiF xc hq g2 ba N pi) (hN:N<=12) (hv:v<N) (hl:lab<=12*cL)
 (hp: -(FAR:Int)<=pi v) (hk: ∀k,σ.K v=some k->k=σ.L v+pi v):
 Ret xc 133 [ptrTo br,.int .i64 (v:Nat),.int .i64 (lab:Nat),.int .i64 (byI p)] h0 fun _ h'=>Mo (· ∈B) h0 h'/\ ∃B',eo h' B' br pn fal (.func (.func g2) #[] #[ptrTo ba]) N (dA pi σ v lab p)/\ ∀c∈B',c∈B\/h0.n<=c:=by
 have ok:=gq.ok
 have R0:=R
 obtain⟨bl,bb,bk,ph,F,vE,rfl,hL,hG,nd,H,hF⟩:=R
 have S:=St.ofHas (M:=fun c=>c∈keys (srL br bl bb bk N pn (ptrTo ph) fal (.func (.func g2) #[] #[ptrTo ba]) vE σ) (srG vE σ)++F) ok hL (fun p hp=>by cases hp with|head=>exact hG|tail _ h=>cases h) nd (fun c hc=>xf _ hc)
 have fr:=iP
 have wm:=jM
 have same:dA pi σ v lab p=σ-> ∀h,Gr h0 h->Mo (· ∈keys (srL br bl bb bk N pn (ptrTo ph) fal (.func (.func g2) #[] #[ptrTo ba]) vE σ) (srG vE σ)++F) h0 h/\ ∃B',eo h B' br pn fal (.func (.func g2) #[] #[ptrTo ba]) N (dA pi σ v lab p)/\ ∀c∈B',c∈keys (srL br bl bb bk N pn (ptrTo ph) fal (.func (.func g2) #[] #[ptrTo ba]) vE σ) (srG vE σ)++F\/h0.n<=c:=
  fun e h g=>⟨g.fr,_,by rw [e];exact R0.gr g,fun c hc=>.inl hc⟩
 generalize hBB:keys (srL br bl bb bk N pn (ptrTo ph) fal (.func (.func g2) #[] #[ptrTo ba]) vE σ) (srG vE σ)++F=BB at S same
 have hFB: ∀c∈F,c∈BB\/h0.n<=c:=fun c hc=>.inl (by rw [<-hBB];exact xi _ hc)
 unfold srL srG at S
 have lF:=H.lt ok
 have ll:=fun {b} hb=>S.key_lt (b:=b) hb
 refine ac (n:=86) (rs:=[]) rfl Tryz.e133 rfl rfl rfl (lbt rfl) ?_
 simp only [BS,LB,Nat.reduceLT,Nat.reduceEqDiff,Tryz.FFs1133,S.ld (b:=br) (o:=6) m0 rfl]
 refine aq (hpi _ gq v hv) ?_;intro h g;replace S:=S.call g;replace H:=H.gr g
 simp only [BS,LB,Nat.reduceLT,Nat.reduceEqDiff,Tryz.FFs1133,S.ld (b:=br) (o:=1) m0 rfl]
 refine aq (qy S.ok H) ?_;intro h' g';replace S:=S.call g';replace H:=H.gr g';replace g:=g.trans g';clear g' h
 have n0:=g.n
 have lk:=(S.row (b:=bk) m3).load1 (clC_at (O:=σ.O) hv)
 have lL:=(S.row (b:=bl) m1).load1 (oR (L:=σ.L) hv)
 by_cases hO:v∈σ.O
 . have dO:decide (v∈σ.O)=true:=decide_eq_true hO
   simp only [BS,LB,Nat.reduceLT,Nat.reduceEqDiff,Tryz.FFs1133,hv,lk,dO,S.ld (b:=br) (o:=4) m0 rfl,S.ld (b:=br) (o:=2) m0 rfl]
   exact same (by unfold dA;rw [if_pos (.inl hO)]) _ g
 . have dO:decide (v∈σ.O)=false:=decide_eq_false hO
   by_cases hpF:(FAR:Int)<=pi v
   . have c1:(72057594037927936:Int)<=pi v:=by omega
     simp only [BS,LB,Nat.reduceLT,Nat.reduceEqDiff,Tryz.FFs1133,hv,lk,dO,c1,S.ld (b:=br) (o:=4) m0 rfl,S.ld (b:=br) (o:=2) m0 rfl]
     exact same (by unfold dA;rw [if_pos (.inr (.inl hpF))]) _ g
   . have c1: ¬(72057594037927936:Int)<=pi v:=by omega
     have wl:ao .i64 ((lab:Int)+pi v)=(lab:Int)+pi v:=by rw [wrap64]<;>omega
     have fin: ¬((σ.K v).isSome=true/\σ.L v<=lab)-> ∀(h':Hp) (F':List Nat),St (· ∈BB) h0 h' [(br,.row [pn,ptrTo ph,.slice (some ⟨bl,0,none⟩) N N,.slice (some ⟨bb,0,none⟩) N N,.slice (some ⟨bk,0,none⟩) N N,fal,.func (.func g2) #[] #[ptrTo ba],vE] 1),(bl,.row ((labC N σ.L).set v (.int .i64 (lab:Nat))) 1),(bb,.row ((byC N σ.P).set v (.int .i64 (byI p))) 1),(bk,.row (clC N σ.O) 1)] [(vE,4,σ.ev.flatMap iM)]->
      cj h' F' (ptrTo ph) N (bV σ.K v (some ((lab:Int)+pi v)))->(∀c∈F',c∈F\/h0.n<=c)->Mo (· ∈BB) h0 h'/\ ∃B',eo h' B' br pn fal (.func (.func g2) #[] #[ptrTo ba]) N (dA pi σ v lab p)/\ ∀c∈B',c∈BB\/h0.n<=c:=by
      intro hc h' F' T H' hF'
      rw [labC_set,byC_set]at T
      refine⟨T.fr,keys (srL br bl bb bk N pn (ptrTo ph) fal (.func (.func g2) #[] #[ptrTo ba]) vE σ) (srG vE σ)++F',?_,fun c hc=>?_⟩
      . unfold dA
        rw [if_neg (by simp only [not_or];exact⟨hO,hpF,hc⟩)]
        refine⟨bl,bb,bk,ph,F',vE,rfl,fun q hq=>(T.own q hq).2,(T.gown _ m0).1,T.apart,H',fun c hc hm=>?_⟩
        rcases hF' c hc with h1|h1
        . exact hF c h1 hm
        . have:=ll (b:=c) hm;omega
      . rcases List.mem_append.1 hc with hc|hc
        . exact .inl (by rw [<-hBB];exact xf _ hc)
        . rcases hF' c hc with h1|h1
          . exact .inl (by rw [<-hBB];exact xi _ h1)
          . exact .inr h1
     have hne: ∀F':List Nat,(∀c∈F',c∈F\/h0.n<=c)-> ∀c∈F',¬(c=bl)/\ ¬(c=bb):=fun F' h c hc=>by
      rcases h c hc with h1|h1
      . have:=hF c h1
        simp [srL,keys]at this
        exact⟨this.2.1,this.2.2.1⟩
      . have h2:=ll (b:=bl) (by simp [keys])
        have h3:=ll (b:=bb) (by simp [keys])
        exact⟨fun e=>by omega,fun e=>by omega⟩
     have ap:=S.apart
     have n1:br≠bl:=fun e=>by subst e;simp [keys]at ap
     have n2:br≠bb:=fun e=>by subst e;simp [keys]at ap
     have n3:bl≠bb:=fun e=>by subst e;simp [keys]at ap
     clear ap
     cases hK:σ.K v with
     | none=>
       simp only [BS,LB,Nat.reduceLT,Nat.reduceEqDiff,Tryz.FFs1133,hv,lk,dO,c1,Option.getD_none,xN,wl,S.ld (b:=br) (o:=4) m0 rfl,S.ld (b:=br) (o:=2) m0 rfl,S.ld (b:=br) (o:=1) m0 rfl]
       refine step_ret (mC S.ok H hv (by omega) hK) ?_
       rintro r h2 ⟨f2,F',H2,hF'⟩
       replace S:=S.stepF f2 (fun c hc=>⟨hFB c hc,hF c hc⟩)
       replace hF': ∀c∈F',c∈F\/h0.n<=c:=fun c hc=>(hF' c hc).imp (fun h=>h) (fun h=>xe n0 h)
       clear lk lL
       simp only [BS]
       refine aA (aI rfl) (q:=0) (ps:=[]) (by kernel_rfl) ?_
       simp only [BS,LB,cls,Nat.reduceLT,Nat.reduceEqDiff,Nat.reduceAdd,Nat.reducePow,Nat.reduceDiv,Nat.reduceMod,Nat.reduceLeDiff,Tryz.FFs1133,hv,S.ld (b:=br) (o:=2) m0 rfl,S.ld (b:=br) (o:=3) m0 rfl]
       refine dV (aB S (i:=1) rfl yx bO (by rw [tX];exact hv) ono) ?_
       clear S;rintro h3 ⟨S,mo1⟩
       simp only [LC]at S
       simp only [BS,LB,cls,Nat.reduceLT,Nat.reduceEqDiff,Nat.reduceAdd,Nat.reducePow,Nat.reduceDiv,Nat.reduceMod,Nat.reduceLeDiff,Tryz.FFs1133,hv]
       refine dV (aB S (i:=2) rfl yg bO (by rw [byC_len];exact hv) ono) ?_
       clear S;rintro h4 ⟨S,mo2⟩
       simp only [LC]at S
       simp only [BS,LB,Nat.reduceAdd]
       exact fin (by rw [hK];simp) _ F' S ((H2.mo mo1 (fun c hc=>(hne F' hF' c hc).1)).mo mo2 (fun c hc=>(hne F' hF' c hc).2)) hF'
     | some k=>
       have ek:=hk k hK
       by_cases hle:σ.L v<=lab
       . have c2:(σ.L v:Int)<=(lab:Int):=by omega
         simp only [BS,LB,Nat.reduceLT,Nat.reduceEqDiff,Tryz.FFs1133,hv,lk,dO,lL,c1,Option.getD_some,c2,S.ld (b:=br) (o:=4) m0 rfl,S.ld (b:=br) (o:=2) m0 rfl]
         exact same (by unfold dA;rw [if_pos (.inr (.inr ⟨by rw [hK];rfl,hle⟩))]) _ g
       . have c2: ¬(σ.L v:Int)<=(lab:Int):=by omega
         simp only [BS,LB,Nat.reduceLT,Nat.reduceEqDiff,Tryz.FFs1133,hv,lk,dO,lL,c1,Option.getD_some,c2,wl,S.ld (b:=br) (o:=4) m0 rfl,S.ld (b:=br) (o:=2) m0 rfl,S.ld (b:=br) (o:=1) m0 rfl]
         refine step_ret (oz S.ok H (by omega) hK (k:=(lab:Int)+pi v) (by omega)) ?_
         rintro r h2 ⟨f2,H2⟩
         replace S:=S.stepF f2 (fun c hc=>⟨hFB c hc,hF c hc⟩)
         have hF': ∀c∈F,c∈F\/h0.n<=c:=fun c hc=>.inl hc
         clear lk lL
         simp only [BS]
         refine aA (aI rfl) (q:=0) (ps:=[]) (by kernel_rfl) ?_
         simp only [BS,LB,cls,Nat.reduceLT,Nat.reduceEqDiff,Nat.reduceAdd,Nat.reducePow,Nat.reduceDiv,Nat.reduceMod,Nat.reduceLeDiff,Tryz.FFs1133,hv,S.ld (b:=br) (o:=2) m0 rfl,S.ld (b:=br) (o:=3) m0 rfl]
         refine dV (aB S (i:=1) rfl yx bO (by rw [tX];exact hv) ono) ?_
         clear S;rintro h3 ⟨S,mo1⟩
         simp only [LC]at S
         simp only [BS,LB,cls,Nat.reduceLT,Nat.reduceEqDiff,Nat.reduceAdd,Nat.reducePow,Nat.reduceDiv,Nat.reduceMod,Nat.reduceLeDiff,Tryz.FFs1133,hv]
         refine dV (aB S (i:=2) rfl yg bO (by rw [byC_len];exact hv) ono) ?_
         clear S;rintro h4 ⟨S,mo2⟩
         simp only [LC]at S
         simp only [BS,LB,Nat.reduceAdd]
         exact fin (by rw [hK];simp;omega) _ F S ((H2.mo mo1 (fun c hc=>(hne F hF' c hc).1)).mo mo2 (fun c hc=>(hne F hF' c hc).2)) hF'
open Tryz in
def Tryz.FFs2138:=aj a1<|aj s1<|aj z1<|aj n1<|aj u2<|aj a2<|aj s2<|aj z2<|aj i2<|aj u3<|aj a3<|aj s3<|aj z3<|aj i3<|aj u4<|aj a4<|aj s4<|aj z4<|aj n4<|aj u5<|aj a5<|aj s5<|aj z5<|aj i5<|aj u6<|aj a6<|aj s6<|aj z6<|aj i6<|aj a7<|aj s7<|aj z7<|aj i7<|aj n7<|aj p7<|aj ff7<|aj d7<|aj u25<|aj a25<|aj s25<|aj z25<|aj q25<|aj n25<|aj a28<|aj s28<|aj z28<|aj i28<|aj n28<|aj p28<|aj ff28<|aj d28<|aj u29<|aj a29<|aj s29<|aj z29<|aj q29<|aj i29<|aj n29<|aj u38<|aj a38<|aj s38<|aj z38<|aj q38<|aj n38<|aj u43<|aj a43<|aj s43<|aj z43<|aj q43<|aj n43<|aj a49<|aj s49<|aj z49<|aj i49<|aj n49<|aj p49<|aj ff49<|aj d49<|aj u52<|aj a52<|aj s52<|aj z52<|aj q52<|aj n52<|aj a124<|aj s124<|aj z124<|aj n124<|aj u127<|aj a127<|aj s127<|aj z127<|aj q127<|aj i127<|aj n127<|aj a164<|aj s164<|aj z164<|aj i164<|aj n164<|aj p164<|aj ff164<|aj d164<|aj u190<|aj a190<|aj s190<|aj z190<|aj q190<|aj n190<|aj a192<|aj s192<|aj z192<|aj i192<|aj n192<|aj p192<|aj ff192<|aj d192<|aj u198<|aj a198<|aj s198<|aj z198<|aj q198<|aj i198<|aj n198<|aj a200<|aj s200<|aj z200<|aj n200<|aj a202<|aj s202<|aj z202<|aj i202<|aj n202<|aj p202<|aj ff202<|aj d202<|aj a268<|aj s268<|aj z268<|aj i268<|aj n268<|aj p268<|aj ff268<|d268
theorem eo.close{M:Nat->Prop}{h0 h:Hp}{br bl bb bk ph N:Nat}{F:List Nat}{pn fal fpi vE:Value}{σ:SS}(S:St M h0 h (srL br bl bb bk N pn (ptrTo ph) fal fpi vE σ) (srG vE σ))(H:cj h F (ptrTo ph) N σ.K)(hF: ∀c∈F,c∉keys (srL br bl bb bk N pn (ptrTo ph) fal fpi vE σ) (srG vE σ)):
 eo h (keys (srL br bl bb bk N pn (ptrTo ph) fal fpi vE σ) (srG vE σ)++F) br pn fal fpi N σ:=
 ⟨bl,bb,bk,ph,F,vE,rfl,fun q hq=>(S.own q hq).2,(S.gown _ m0).1,S.apart,H,hF⟩
theorem eo.open{h:Hp}(ok:h.t.Sized h.n){B:List Nat}{br N:Nat}{pn fal fpi:Value}{σ:SS}(r:eo h B br pn fal fpi N σ): ∃bl bb bk ph F vE,B=keys (srL br bl bb bk N pn (ptrTo ph) fal fpi vE σ) (srG vE σ)++F/\St (· ∈B) h h (srL br bl bb bk N pn (ptrTo ph) fal fpi vE σ) (srG vE σ)/\cj h F (ptrTo ph) N σ.K/\ ∀c∈F,c∉keys (srL br bl bb bk N pn (ptrTo ph) fal fpi vE σ) (srG vE σ):=by
 obtain⟨bl,bb,bk,ph,F,vE,rfl,h1,h2,h3,h4,h5⟩:=r
 exact⟨bl,bb,bk,ph,F,vE,rfl,St.ofHas ok h1 (fun p hp=>by cases hp with|head=>exact h2|tail _ h=>cases h) h3 (fun c hc=>xf _ hc),h4,h5⟩
theorem uE(pi:Nat->Int)(σ:SS)(v lab:Nat)(p:List Nat):(dA pi σ v lab p).ev=σ.ev:=by
 unfold dA;split<;>rfl
theorem tb(A:List Arc)(al:Nat->Bool)(pi:Nat->Int)(v:Nat)(σ:SS)(a:Nat):(scan1 A al pi v σ a).ev.length<=σ.ev.length+1:=by
 unfold scan1
 split
 . rw [uE];simp [evS]
 . omega
theorem sscan_ok {hq h0:Hp} (okq:hq.t.Sized hq.n) (gq:Gr hq h0) {γ:Gra} (hγ:Good γ) {nb bp:Nat} (hn:aY hq nb (ptrTo bp) γ) {B:List Nat} {br ba v s:Nat} {g1 g2:FuncId} {σ:SS} {al:Nat->Bool} {pi:Nat->Int} (R:eo h0 B br (ptrTo bp) (.func (.func g1) #[] #[ptrTo ba]) (.func (.func g2) #[] #[ptrTo ba]) γ.nodes σ) (hB: ∀c∈B,hq.n<=c) (hal:AlF xc hq g1 ba γ.arcs.length al) (hpi:PiF xc hq g2 ba γ.nodes pi) (hp: ∀v,v<γ.nodes-> -(FAR:Int)<=pi v)
 (hv:v<γ.nodes) (sv:Sv γ.arcs γ.nodes s al pi σ) (rm:Room σ v) (he:σ.ev.length<=10000):
 Ret xc 138 [ptrTo br,.int .i64 (v:Nat)] h0 fun _ h'=>Mo (· ∈B) h0 h'/\ ∃B',eo h' B' br (ptrTo bp) (.func (.func g1) #[] #[ptrTo ba]) (.func (.func g2) #[] #[ptrTo ba]) γ.nodes (ma γ.arcs al pi v σ)/\ ∀c∈B',c∈B\/h0.n<=c:=by
 have ok:=gq.ok
 have n1:=hγ.n1
 have n2:=hγ.n2
 have wm:=jM
 have hA: ∀a∈γ.arcs,a.t<γ.nodes/\a.w<=cL:=fun a ha=>⟨(hγ.arcs a ha).2.1,(hγ.arcs a ha).2.2⟩
 have l0:h0.load br 0 1=some [ptrTo bp]:=by
  obtain⟨bl,bb,bk,ph,F,vE,rfl,h1,_⟩:=R
  exact Row.load1 (show Row h0 br _ 1 from h1 _ m0) (o:=0) rfl
 have S:=Si ok
 refine ac (n:=62) (rs:=[]) rfl Tryz.e138 rfl rfl rfl (lbt rfl) ?_
 simp only [BS,LB,Nat.reduceLT,Nat.reduceEqDiff,Tryz.FFs2138,l0]
 refine step_ret (netOut_ok S.ok (hn.gr gq) (by have:=hγ.many;omega) hv) ?_
 rintro vl h1 ⟨g,sl,hc⟩
 have lB:=R.lt ok
 have R1:=R.gr g
 have ok1:=g.ok
 have ol:=ja γ.arcs Arc.s γ.arcs.length v
 have many:=hγ.many
 have n01:=g.n
 simp only [BS,LB,Nat.reduceLT,Nat.reduceEqDiff,Tryz.FFs2138,sl.lenq]
 refine aV (fun(i:Nat) ρ h=>i<=(outs γ.arcs Arc.s γ.arcs.length v).length/\ ∃B',Mo (· ∈B) h1 h/\eo h B' br (ptrTo bp) (.func (.func g1) #[] #[ptrTo ba]) (.func (.func g2) #[] #[ptrTo ba]) γ.nodes (((outs γ.arcs Arc.s γ.arcs.length v).take i).foldl (scan1 γ.arcs al pi v) σ)/\(∀c∈B',c∈B\/h1.n<=c)/\
  ρ 0=ptrTo br/\ρ 1=.int .i64 (v:Nat)/\ρ 13=vl/\ρ 14=.int .i64 ((outs γ.arcs Arc.s γ.arcs.length v).length:Nat)/\ρ 15=.int .i64 i) (fun i=>(outs γ.arcs Arc.s γ.arcs.length v).length-i) ?_ 0 _ _ ?_
 . clear S l0
   intro i ih ρ hS ⟨hi,B',f,R',hB',r0,r1,r13,r14,r15⟩
   by_cases hlt:i<(outs γ.arcs Arc.s γ.arcs.length v).length
   . have hBq: ∀c∈B',hq.n<=c:=fun c hc=>(hB' c hc).elim (hB c) (fun h=>by have:=gq.n;omega)
     have gh:Gr hq hS:=(gq.trans g).mo' f hB
     have slh:=sl.mo f (fun b hb hm=>by have:=hc b hb;have:=lB b hm;omega)
     obtain⟨c,o,hidx,hld⟩:=slh.ix (kd:=.i64) dU hlt
     have hm:=eY.1 (xL hlt)
     have w:ao .i64 ((i:Int)+1)=((i+1:Nat):Int):=by rw [wrap64]<;>omega
     have hl2: ∀a∈(outs γ.arcs Arc.s γ.arcs.length v).take i,a<γ.arcs.length/\(γ.arcs.getD a default).s=v:=fun a ha=>eY.1 (List.mem_of_mem_take ha)
     obtain⟨svi,ki⟩:=Sv.scanL hA _ sv rm hl2
     have rmi:=rm.keeps ki
     have evi:(((outs γ.arcs Arc.s γ.arcs.length v).take i).foldl (scan1 γ.arcs al pi v) σ).ev.length<=10000+i:=by
      have: ∀(l:List Nat) (σ:SS),(l.foldl (scan1 γ.arcs al pi v) σ).ev.length<=σ.ev.length+l.length:=by
       intro l
       induction l with
       |nil=>intro σ;simp
       |cons a l ih=>intro σ;have h1:=ih (scan1 γ.arcs al pi v σ a);have h2:=tb γ.arcs al pi v σ a;simp only [List.foldl_cons,List.length_cons];omega
      have h1:=this ((outs γ.arcs Arc.s γ.arcs.length v).take i) σ
      rw [xG]at h1
      omega
     have tk:(outs γ.arcs Arc.s γ.arcs.length v).take (i+1)=(outs γ.arcs Arc.s γ.arcs.length v).take i++[(outs γ.arcs Arc.s γ.arcs.length v)[i]]:=by rw [List.take_add_one,xh hlt];rfl
     have nxt:((outs γ.arcs Arc.s γ.arcs.length v).take (i+1)).foldl (scan1 γ.arcs al pi v) σ=scan1 γ.arcs al pi v (((outs γ.arcs Arc.s γ.arcs.length v).take i).foldl (scan1 γ.arcs al pi v) σ) (outs γ.arcs Arc.s γ.arcs.length v)[i]:=by rw [tk,List.foldl_append];rfl
     generalize(((outs γ.arcs Arc.s γ.arcs.length v).take i).foldl (scan1 γ.arcs al pi v) σ)=σi at R' svi ki rmi evi nxt
     generalize(outs γ.arcs Arc.s γ.arcs.length v)[i]=a at hm hld nxt
     obtain⟨ha,hsv⟩:=hm
     obtain⟨bl,bb,bk,ph,F,vE,hBe,S,H,hF⟩:=R'.open f.ok
     have lB':=R'.lt f.ok
     have hk0: ∀c∈keys (srL br bl bb bk γ.nodes (ptrTo bp) (ptrTo ph) (.func (.func g1) #[] #[ptrTo ba]) (.func (.func g2) #[] #[ptrTo ba]) vE σi) (srG vE σi),c∈B':=fun c hc=>by rw [hBe];exact xf _ hc
     have hk1: ∀c∈F,c∈B':=fun c hc=>by rw [hBe];exact xi _ hc
     have lF:=H.lt f.ok
     replace S:=S.base
     generalize hKK:keys (srL br bl bb bk γ.nodes (ptrTo bp) (ptrTo ph) (.func (.func g1) #[] #[ptrTo ba]) (.func (.func g2) #[] #[ptrTo ba]) vE σi) (srG vE σi)=KK at S hk0 hF hBe
     unfold srL srG at S
     simp only [BS,LB,Nat.reduceLT,Nat.reduceEqDiff,Tryz.FFs2138,r0,r13,r14,r15,aG,hlt,hidx,hld,cw,S.ld (b:=br) (o:=5) m0 rfl]
     refine aq (hal _ gh a ha) ?_;intro h' g';replace S:=S.call g'
     have nh':=g'.n
     cases hala:al a with
     | false=>
       simp only [BS,LB,Nat.reduceLT,Nat.reduceEqDiff,r15,w]
       refine ih (i+1) _ _ (by omega) ⟨by omega,B',f.trans (M':=NoM) g'.fr (fun _ h=>h.elim),?_,hB',by simp [aa,r0,ab],by simp [aa,r1],by simp [aa,r13],by simp [aa,r14],by simp [aa]⟩
       rw [nxt]
       unfold scan1
       rw [hala,if_neg Bool.false_ne_true]
       exact R'.gr g'
     | true=>
       have fvE:Fl vE:=(S.gown _ m0).1.fl
       simp only [BS,LB,Nat.reduceLT,Nat.reduceEqDiff,Nat.reduceAdd,Tryz.FFs2138,r0,S.ld (b:=br) (o:=7) m0 rfl]
       refine ag (bW (by exact yJ) (by exact yA) (by decide) (by rfl)) S ?_;clear S;intro h bs S n_bs;simp only [LC,aP,bj,ah,Nat.reduceMul,Nat.reduceAdd,xF,xE,xt,xS]at S
       simp only [BS,LB,Nat.reduceLT,Nat.reduceEqDiff]
       have src:aO h 4 (.slice (some ⟨bs,0,none⟩) 1 1)=some (1,iM ⟨1,a,0⟩):=by simp only [aO];rw [S.lds (b:=bs) (o:=0) (n:=1*4) m0 (lbt rfl)];rfl
       replace S:=S.drop1
       refine e6 (S.grow (j:=0) (m:=1) (new:=iM ⟨1,a,0⟩) rfl yJ yA (by decide) Tryz.n52 src rfl (by decide) rfl (by rw [aS tS];show(_+4)*_<=_;omega)) ?_
       clear S src;rintro h2 vE' S
       simp only [LC]at S
       have fvE':Fl vE':=(S.gown _ m0).1.fl
       simp only [BS,LB,Nat.reduceLT,Nat.reduceEqDiff,Tryz.FFs2138]
       refine az (aB S (i:=0) rfl Tryz.s52 fvE' (xo (lbt rfl)) ono) ?_
       clear S;rintro h3 ⟨S,_⟩
       simp only [LC]at S
       have eE:(σi.ev++[(⟨1,a,0⟩:Ev)]).flatMap iM=σi.ev.flatMap iM++iM ⟨1,a,0⟩:=by rw [ye];simp
       rw [<-eE]at S
       simp only [BS,LB,Nat.reduceLT,Nat.reduceEqDiff,Tryz.FFs2138,r0,S.ld (b:=br) (o:=0) m0 rfl]
       have hKq: ∀c∈KK,hq.n<=c:=fun c hc=>hBq c (hk0 c hc)
       refine step_ret (jm S.ok (hn.gr (gh.mo' S.fr hKq)) ha) ?_
       rintro rv h4 ⟨g4,rfl⟩
       replace S:=S.call g4;clear g4
       have ga:γ.arcs[a]=γ.arcs.getD a default:=by simp [xg,ha]
       have aok:=hA (γ.arcs.getD a default) (by rw [<-ga];exact xL ha)
       have lv:=rmi.2.1
       have ol2:σi.O.length*cL<=12*cL:=xZ _ (xe svi.len n2)
       rw [ga]
       simp only [BS,LB,Nat.reduceLT,Nat.reduceEqDiff,Tryz.FFs2138,cl]
       refine ag ax S ?_;clear S;intro h b6 S n_b6
       simp only [BS,LB,Nat.reduceLT,Nat.reduceEqDiff]
       refine az (S.store (i:=0) rfl ?_ ?_ rfl rfl ?_ ono) ?_
       . exact(by exact Tryz.s49)
       . exact(by intro x e;cases e)
       . exact lbt rfl
       clear S;rintro h ⟨S,mo⟩;clear mo;simp only [LC,ah,lay,xu,xw,Nat.reduceAdd]at S
       simp only [BS,LB,Nat.reduceLT,Nat.reduceEqDiff]
       have lL:=(S.row (b:=bl) m2).load1 (oR (L:=σi.L) hv)
       have wn:ao .i64 ((σi.L v:Int)+((γ.arcs.getD a default).w:Int))=((σi.L v+(γ.arcs.getD a default).w:Nat):Int):=by rw [wrap64]<;>omega
       refine aA (aI rfl) (q:=0) (ps:=[]) (by kernel_rfl) ?_
       simp only [BS,LB,cls,Nat.reduceLT,Nat.reduceEqDiff,Nat.reduceAdd,Nat.reducePow,Nat.reduceDiv,Nat.reduceMod,Nat.reduceLeDiff,Tryz.FFs2138,r0,r1,wn,hv,lL,S.ld (b:=br) (o:=2) m1 rfl,S.ld (b:=b6) (o:=1) m0 rfl,S.ld (b:=b6) (o:=2) m0 rfl]
       have kn:=fun c hc=>(S.key_own (b:=c) hc).symm
       have kf:=S.fr
       have gx:=gh.mo' S.fr hKq
       have hF2: ∀c∈F,c∉keys (srL br bl bb bk γ.nodes (ptrTo bp) (ptrTo ph) (.func (.func g1) #[] #[ptrTo ba]) (.func (.func g2) #[] #[ptrTo ba]) vE' (evS σi ⟨1,a,0⟩)) (srG vE' (evS σi ⟨1,a,0⟩)):=fun c hc hm=>by
        rcases kn c (xA _ hm)with h1|h1
        . exact hF c hc h1
        . have:=lF c hc;omega
       have R2:=eo.close (σ:=evS σi ⟨1,a,0⟩) (vE:=vE') S.drop1 (H.mo kf (fun c hc hm=>hF c hc hm)) hF2
       have hB2: ∀c∈keys (srL br bl bb bk γ.nodes (ptrTo bp) (ptrTo ph) (.func (.func g1) #[] #[ptrTo ba]) (.func (.func g2) #[] #[ptrTo ba]) vE' (evS σi ⟨1,a,0⟩)) (srG vE' (evS σi ⟨1,a,0⟩))++F,c∈B'\/hS.n<=c:=fun c hc=>by
        rcases List.mem_append.1 hc with hc|hc
        . exact(kn c (xA _ hc)).imp (hk0 c) (fun h=>h)
        . exact .inl (hk1 c hc)
       refine dc (sH (p:=a::σi.P v) (lab:=σi.L v+(γ.arcs.getD a default).w) gx R2 hpi n2 aok.1 (by omega) (hp _ aok.1) (fun k hk=>(svi.op _ k hk).2.2.2)) ?_
       rintro rv h5 ⟨f5,B3,R3,hB3⟩
       simp only [BS,LB,Nat.reduceLT,Nat.reduceEqDiff,Nat.reduceAdd,r15,w]
       have nh:=f.n
       have nx:=kf.n
       have gB: ∀c,c∈B'\/hS.n<=c->c∈B\/h1.n<=c:=fun c hc=>hc.elim (hB' c) (fun h=>.inr (by omega))
       refine ih (i+1) _ _ (by omega) ⟨by omega,B3,(f.trans kf (fun c hc=>gB c (.inl (hk0 c hc)))).trans f5 (fun c hc=>gB c (hB2 c hc)),?_,fun c hc=>gB c ((hB3 c hc).elim (hB2 c) (fun h=>.inr (by omega))),by simp [aa,r0,ab],by simp [aa,r1],by simp [aa,r13],by simp [aa,r14],by simp [aa]⟩
       rw [nxt]
       unfold scan1
       rw [hala,if_pos rfl]
       exact R3
   . have ei:i=(outs γ.arcs Arc.s γ.arcs.length v).length:=by omega
     simp only [BS,LB,Nat.reduceLT,r14,r15,aG,hlt]
     refine⟨(g.fr (M:=(· ∈B))).trans f (fun c hc=>.inl hc),B',?_,fun c hc=>(hB' c hc).imp (fun h=>h) (fun h=>by omega)⟩
     rw [ei,List.take_length]at R'
     exact R'
 . exact⟨xJ _,B,Mo.refl ok1,R1,fun c hc=>.inl hc,by simp [aa,aQ,ab],by simp [aa,aQ,bU],by simp [aa],by simp [aa],by simp [aa]⟩
open Tryz in
def Tryz.FFs3211:=aj a1<|aj s1<|aj z1<|aj n1<|aj u2<|aj a2<|aj s2<|aj z2<|aj i2<|aj u3<|aj a3<|aj s3<|aj z3<|aj i3<|aj u4<|aj a4<|aj s4<|aj z4<|aj n4<|aj u6<|aj a6<|aj s6<|aj z6<|aj i6<|aj a7<|aj s7<|aj z7<|aj i7<|aj n7<|aj p7<|aj ff7<|aj d7<|aj u38<|aj a38<|aj s38<|aj z38<|aj q38<|aj n38<|aj a110<|aj s110<|aj z110<|n110
open Tryz in
def Tryz.FFs3212:=aj a1<|aj s1<|aj z1<|aj n1<|aj u2<|aj a2<|aj s2<|aj z2<|aj i2<|aj u3<|aj a3<|aj s3<|aj z3<|aj i3<|aj u4<|aj a4<|aj s4<|aj z4<|aj n4<|aj u25<|aj a25<|aj s25<|aj z25<|aj q25<|aj n25<|aj a28<|aj s28<|aj z28<|aj i28<|aj n28<|aj p28<|aj ff28<|aj d28<|aj u29<|aj a29<|aj s29<|aj z29<|aj q29<|aj i29<|aj n29<|aj u38<|aj a38<|aj s38<|aj z38<|aj q38<|aj n38<|aj u43<|aj a43<|aj s43<|aj z43<|aj q43<|aj n43<|aj a49<|aj s49<|aj z49<|aj i49<|aj n49<|aj p49<|aj ff49<|aj d49<|aj u52<|aj a52<|aj s52<|aj z52<|aj q52<|aj n52<|aj a124<|aj s124<|aj z124<|aj n124<|aj u127<|aj a127<|aj s127<|aj z127<|aj q127<|aj i127<|aj n127<|aj a164<|aj s164<|aj z164<|aj i164<|aj n164<|aj p164<|aj ff164<|aj d164<|aj u190<|aj a190<|aj s190<|aj z190<|aj q190<|aj n190<|aj a192<|aj s192<|aj z192<|aj i192<|aj n192<|aj p192<|aj ff192<|aj d192<|aj u198<|aj a198<|aj s198<|aj z198<|aj q198<|aj i198<|aj n198<|aj a200<|aj s200<|aj z200<|aj n200<|aj a202<|aj s202<|aj z202<|aj i202<|aj n202<|aj p202<|aj ff202<|aj d202<|aj a268<|aj s268<|aj z268<|aj i268<|aj n268<|aj p268<|aj ff268<|d268
def IterW(E:Env)(g:FuncId)(post:List Value)(h0:Hp)(D W:Nat->Prop)(xs:List (List Value)):Prop:=
 ∀lb J Z,(∀v h,¬Z (.pan v) h)->Yld E lb J Z xs->(∀i h F h',J i h F->Mo W h h'->J i h' F)-> ∀h F,ItS h0 D h F->(∀b,W b->h.get b=h0.get b)->(∀b∈F,¬W b)->J 0 h F->eG E g ([]++[.func (.yield lb) #[] #[]]++post) none h (YQ J Z xs.length)
theorem iter_w{E:Env}{g:FuncId}{post:List Value}{h0:Hp}{D:Nat->Prop}{xs:List (List Value)}(H:lW E g [] post h0 D xs):IterW E g post h0 D NoM xs:=fun lb J Z hz Y _ h F s _ _ hj=>H lb J Z hz Y h F s hj
theorem pX(l:List Nat):(l.flatMap cw).length=l.length:=by rw [aS dU];omega
theorem nu{h:Hp}{p:GL}(g:ew h p){c:Nat}(hb:au p.1 c):dw p=some c:=by
 rcases g with⟨e,_⟩|⟨b,n,e,_⟩
 . rw [e]at hb;exact hb.elim
 . obtain⟨v,k,vs⟩:=p
   simp only []at e hb
   subst e
   exact congrArg some hb
theorem sK{h0:Hp}(ok:h0.t.Sized h0.n){g:FuncId}{post:Array Value}{D W:Nat->Prop}{xs:List Nat}(it:IterW xc g post.toList h0 D W (xs.map fun(x:Nat)=>[.int .i64 x]))(hW: ∀b,W b->b<h0.n)(hn:xs.length<100000):
 Ret xc 211 [.slice none 0 0,.func (.func g) #[] post] h0 fun r h'=>Mo W h0 h'/\ew h' (r,1,xs.flatMap cw)/\ ∀c,au r c->h0.n<=c:=by
 have S:=Si ok
 refine ac (n:=13) (rs:=[.tmp 4]) rfl Tryz.e211 rfl rfl rfl (lbt rfl) ?_
 simp only [BS,Nat.reduceLT]
 refine ag (cG (by exact cy)) S ?_;clear S;intro h b2 S n_b2
 simp only [BS,Nat.reduceLT,Nat.reduceEqDiff,if_false]
 replace S:=S.nilG (k:=1)
 have g0:=S.gr
 replace S:=S.monoM (M:=W)
 have fr0:=S.fr
 refine iC S (g:=g) (a:=#[]) (b:=post) (by simp [cg,aa,aQ,bU]) rfl rfl ?_
 intro h2 db lb S' hdb hlb g2
 obtain⟨X,hX,S'⟩: ∃X:eF,X=_/\St W h0 h2 [(lb,.loop X),(db,.dfr),(b2,.row [.slice none 0 0] 1)] [(.slice none 0 0,1,[])]:=⟨_,rfl,S'⟩
 have nW: ∀c,h0.n<=c-> ¬W c:=fun c h hw=>by have:=hW c hw;omega
 have hJ:Yld xc lb (fun k h' F=> ∃(vR:Value),St W h0 h' [(lb,.loop X),(db,.dfr),(b2,.row [vR] 1)] [(vR,1,(xs.take k).flatMap cw)]/\k<=xs.length/\(∀c∈F,h0.n<=c)/\F=keys [(lb,.loop X),(db,.dfr),(b2,.row [vR] 1)] [(vR,1,(xs.take k).flatMap cw)]) (fun _ _=>False) (xs.map fun(x:Nat)=>[.int .i64 x]):=by
  refine⟨?_,?_,fun _ _ h=>h.elim,?_⟩
  . rintro i h F ⟨vR,S,_,_,rfl⟩;exact⟨S.ok,fun b hb=>S.key_lt hb⟩
  . rintro i h F h' ⟨vR,S,a,b,rfl⟩ gg;exact⟨vR,S.call gg,a,b,rfl⟩
  . rintro i x hR F hx ⟨vR,S,a,b,rfl⟩
    have hil:i<xs.length:=by
     have:=(List.getElem?_eq_some_iff.1 hx).1
     simpa using this
    rw [xP,xh hil]at hx
    cases hx
    have tk:(xs.take (i+1)).flatMap cw=(xs.take i).flatMap cw++[.int .i64 (xs[i]:Nat)]:=by rw [List.take_add_one,xh hil,ye];rfl
    have tl:(xs.take i).length<=i:=by rw [xG];omega
    subst hX
    refine iB (S.get m0) (by rw [Tryz.e211];rfl) rfl ?_
    have S0:=S
    replace S:=S.base
    simp only [BS,LB,Nat.reduceLT,Nat.reduceEqDiff]
    refine gJ S (i:=0) rfl rfl rfl rfl rfl ?_
    clear S;intro h S
    simp only [LC]at S
    simp only [BS,LB,Nat.reduceLT,Nat.reduceEqDiff,Tryz.FFs3211,S.ld (b:=b2) (o:=0) m2 rfl]
    refine ag (bW (by exact xH) (by exact xV) (by decide) (by rfl)) S ?_;clear S;intro h bs S n_bs;simp only [LC,aP,bj,ah,Nat.reduceMul,Nat.reduceAdd,xF,xE,xt,xS]at S
    simp only [BS,LB,Nat.reduceLT,Nat.reduceEqDiff]
    have src:aO h 1 (.slice (some ⟨bs,0,none⟩) 1 1)=some (1,[.int .i64 (xs[i]:Nat)]):=by simp only [aO];rw [S.lds (b:=bs) (o:=0) (n:=1*1) m0 (lbt rfl)];rfl
    replace S:=S.drop1
    refine e6 (S.grow (j:=0) (m:=1) (new:=[.int .i64 (xs[i]:Nat)]) rfl xH xV (by decide) Tryz.n38 src rfl (by decide) rfl (by rw [pX];simp;omega)) ?_
    clear S src;rintro h vR' S
    simp only [LC]at S
    have fv:Fl vR':=(S.gown _ m0).1.fl
    simp only [BS,LB,Nat.reduceLT,Nat.reduceEqDiff]
    refine az (aB S (i:=2) rfl Tryz.s38 fv (xo (lbt rfl)) ono) ?_
    clear S;rintro h ⟨S,_⟩
    simp only [LC]at S
    simp only [BS]
    refine ee S (i:=0) rfl ?_
    clear S;intro h S
    simp only [LC]at S
    rw [<-tk]at S
    have fin:=S0.rebase S
    refine .inl ⟨rfl,_,⟨vR',fin,by omega,fun c hc=>?_,rfl⟩,S.fr,fun c hc=>(S.key_own hc).symm⟩
    rcases S.key_own hc with h1|h1
    . have:=S0.fr.n;omega
    . exact b c h1
 have hF0: ∀c∈keys [(lb,Ob.loop X),(db,.dfr),(b2,.row [.slice none 0 0] 1)] [(.slice none 0 0,1,[])],h0.n<=c:=fun c hc=>by
  have n2:=n_b2
  have:=fr0.n
  simp [keys,dw]at hc
  omega
 refine fu (it lb _ _ (fun _ _ h=>h) hJ ?_ h2 _ ?_ ?_ (fun c hc=>nW c (hF0 c hc)) ⟨_,S',xJ _,hF0,rfl⟩) fun o rc h' y=>ir y ?_
 . rintro i h F h' ⟨vR,S,a,b,rfl⟩ gg
   exact⟨vR,S.step gg (fun c hc=>.inl hc) (fun c hc hw=>nW c (b c hc) hw),a,b,rfl⟩
 . have gg:Mo W h0 h2:=S'.fr
   exact⟨S'.ok,S'.fr.n,fun b hb _=>(g0.trans g2).get b hb,fun b hb h=>by have:=hF0 b hb;omega,fun b hb=>S'.key_lt hb⟩
 . exact fun b hb=>(g0.trans g2).get b (hW b hb)
 . rintro F ⟨vR,T,a,b,rfl⟩
   rw [List.length_map,List.take_length]at T b
   subst hX
   refine⟨_,T.get m0,Nat.zero_ne_one,?_⟩
   replace T:=T.dead
   have S:=T
   show Run _ _ _ _ _ _ _ _
   simp only [BS,LB,Nat.reduceLT,Nat.reduceEqDiff,Tryz.FFs3211,S.ld (b:=b2) (o:=0) m1 rfl]
   refine fF (jn [db] _ (L:=[(b2,_)]) T.base fun h3 S3=>⟨rfl,_,rfl,?_⟩)
   refine⟨(T.fr.trans S3.fr (fun c hc=>(T.key_own hc).symm):Mo W h0 h3),(S3.gown _ m0).1,fun x hx=>?_⟩
   refine b x ?_
   have:dw (vR,1,xs.flatMap cw)=some x:=nu (T.gown _ m0).1 hx
   exact eI m0 this
theorem pK{h0:Hp}(ok:h0.t.Sized h0.n){g:FuncId}{post:Array Value}{D W:Nat->Prop}{xs:List Nat}(it:IterW xc g post.toList h0 D W (xs.map fun(x:Nat)=>[.int .i64 x]))(hW: ∀b,W b->b<h0.n)(hn:xs.length<100000):
 Ret xc 135 [.func (.func g) #[] post] h0 fun r h'=>Mo W h0 h'/\ew h' (r,1,xs.flatMap cw)/\ ∀c,au r c->h0.n<=c:=by
 have S:=Si ok
 refine ac (n:=5) (rs:=[.tmp 2]) rfl Tryz.e135 rfl rfl rfl (lbt rfl) ?_
 simp only [BS,LB,Nat.reduceLT,Nat.reduceEqDiff]
 refine step_ret (sK S.ok it hW hn) ?_
 rintro r h ⟨f,q⟩
 simp only [BS,LB,ae,Nat.reduceLT,Nat.reduceEqDiff]
 exact⟨f,q⟩
theorem sback_ok{h0:Hp}(ok:h0.t.Sized h0.n){br v:Nat}:Ret xc 136 [ptrTo br,.int .i64 v] h0 fun r h'=>Gr h0 h'/\ ∃b1 b2,r=.func (.func 212) #[] #[ptrTo b1,ptrTo b2]/\h0.n<=b1/\h0.n<=b2/\b1≠b2/\h'.load b1 0 1=some [ptrTo br]/\Row h' b2 [.int .i64 v] 1:=by
 have S:=Si ok
 refine ac (n:=6) (rs:=[.tmp 4]) rfl Tryz.e136 rfl rfl rfl (lbt rfl) ?_
 simp only [BS,Nat.reduceLT]
 refine ag (cG (by exact dR)) S ?_;clear S;intro h b1 S n_b1
 simp only [BS,Nat.reduceLT,Nat.reduceEqDiff,if_false]
 refine ag (cG (by exact bO)) S ?_;clear S;intro h b2 S n_b2
 simp only [BS,LB,ae,Nat.reduceLT,Nat.reduceEqDiff]
 have ap:=S.apart
 exact⟨S.gr,b1,b2,rfl,n_b1,n_b2,fun e=>(by subst e;simp [keys]at ap),S.ld m1 rfl,S.row m0⟩
theorem back_it{hq h0:Hp}(okq:hq.t.Sized hq.n)(gq:Gr hq h0){γ:Gra}(hγ:Good γ){nb bp:Nat}(hn:aY hq nb (ptrTo bp) γ){B:List Nat}{br b1 b2 s:Nat}{fal fpi:Value}{σ:SS}{al:Nat->Bool}{pi:Nat->Int}(R:eo h0 B br (ptrTo bp) fal fpi γ.nodes σ)(sv:Sv γ.arcs γ.nodes s al pi σ){u0:Nat}(hu:u0∈σ.O)
 (e1:h0.load b1 0 1=some [ptrTo br]) (e2:Row h0 b2 [.int .i64 u0] 1) (d1:b2∉B) (d2:b1≠b2) (d3:hq.n<=b2):
 IterW xc 212 [ptrTo b1,ptrTo b2] h0 (fun c=>c=b1\/c∈B\/c<hq.n) (· =b2) ((σ.P u0).map fun(a:Nat)=>[.int .i64 a]):=by
 intro lb J Z hz Y hW h F s' hb hF hj
 have ok0:=gq.ok
 obtain⟨bl,bb,bk,ph,F',vE,rfl,hL,_⟩:=R
 have rr:Row h0 br _ 1:=hL _ m0
 have rb:Row h0 bb (byC γ.nodes σ.P) 1:=hL _ m2
 have kr:br∈keys (srL br bl bb bk γ.nodes (ptrTo bp) (ptrTo ph) fal fpi vE σ) (srG vE σ)++F':=xf _ (by simp [srL,keys])
 have kb:bb∈keys (srL br bl bb bk γ.nodes (ptrTo bp) (ptrTo ph) fal fpi vE σ) (srG vE σ)++F':=xf _ (by simp [srL,keys])
 generalize keys (srL br bl bb bk γ.nodes (ptrTo bp) (ptrTo ph) fal fpi vE σ) (srG vE σ)++F'=B at d1 kr kb s'
 have l0:=rr.load1 (o:=0) rfl
 have l3:=rr.load1 (o:=3) rfl
 have row2:Row h b2 [.int .i64 u0] 1:=Row.of_get (hb b2 rfl) e2
 have q2:=row2.load1 (o:=0) rfl
 have uN:=sv.lt u0 hu
 have q1:=s'.load ok0 e1 (.inl rfl)
 have q3:=s'.load ok0 l3 (.inr (.inl kr))
 have q4:=s'.load ok0 (rb.load1 (byC_at (P:=σ.P) uN)) (.inr (.inl kb))
 refine enter (n:=39) (rs:=[]) rfl Tryz.e212 rfl rfl rfl (lbt rfl) ?_
 simp only [BS,LB]
 refine aA (aI rfl) (q:=0) (ps:=[]) (by kernel_rfl) ?_
 simp only [BS,LB,cls,Nat.reduceLT,Nat.reduceEqDiff,Nat.reduceAdd,Nat.reducePow,Nat.reduceDiv,Nat.reduceMod,Nat.reduceLeDiff,Tryz.FFs3212,q1,q2,q3,q4,uN]
 refine aV (fun(j:Nat) ρ h=>j<=(σ.P u0).length/\ ∃u F,u∈σ.O/\σ.P u=(σ.P u0).drop j/\ItS h0 (fun c=>c=b1\/c∈B\/c<hq.n) h F/\b2∉F/\J j h F/\Row h b2 [.int .i64 (u:Nat)] 1/\ρ 0=.func (.yield lb) #[] #[]/\ρ 1=ptrTo b1/\ρ 2=ptrTo b2/\ρ 4=.int .i64 (byI (σ.P u))) (fun j=>(σ.P u0).length-j) ?_ 0 _ _ ?_
 . clear q1 q2 q3 q4 uN row2 hj hF hb s' F h
   intro j ih ρ hS ⟨hj',u,F,hu',hP,s',hF,hj,row2,r0,r1,r2,r4⟩
   have uN:=sv.lt u hu'
   rcases sv.path u (.inl hu')with⟨_,e,_⟩|⟨a,ha,hal,ht,hs,e,_⟩
   . have ej:j=(σ.P u0).length:=by
      rw [e]at hP
      have:=congrArg List.length hP
      rw [List.length_drop]at this
      simp at this;omega
     rw [e]at r4
     simp only [byI]at r4
     simp only [BS,LB,Nat.reduceLT,Nat.reduceEqDiff,Int.reduceLE,r4]
     exact cQ (c5 ⟨rfl,_,rfl,rfl,.inl ⟨_,F,rfl,by rw [List.length_map,<-ej];exact hj⟩⟩)
   . have hlt:j<(σ.P u0).length:=by
      rw [e]at hP
      have:=congrArg List.length hP
      rw [List.length_drop]at this
      simp at this;omega
     have hd:(σ.P u0)[j]=a/\(σ.P u0).drop (j+1)=σ.P (γ.arcs.getD a default).s:=by
      rw [e,List.drop_eq_getElem_cons hlt]at hP
      injection hP with h1 h2
      exact⟨h1.symm,h2.symm⟩
     have hx:((σ.P u0).map fun(a:Nat)=>[Value.int .i64 a])[j]? =some [.int .i64 (a:Nat)]:=by rw [xP,xh hlt,hd.1];rfl
     rw [e]at r4
     simp only [byI]at r4
     have c0:(0:Int)<=(a:Int):=by omega
     have b2lt:=row2.lt s'.ok
     simp only [BS,LB,Nat.reduceLT,Nat.reduceEqDiff,r0,r4,c0]
     refine dr Y s' hj (i:=j) hx ?_ ?_ ?_
     . intro h' F2 hj2 s2 f2 hF2
       have row2':Row h' b2 [.int .i64 (u:Nat)] 1:=f2.has (o:=.row _ 1) row2 hF
       have nF2:b2∉F2:=fun hm=>(hF2 b2 hm).elim hF (fun h=>by omega)
       have S:=St.init1 s2.ok (o:=.row _ 1) row2'
       have q1:=s2.load ok0 e1 (.inl rfl)
       have q0:=s2.load ok0 l0 (.inr (.inl kr))
       have q3:=s2.load ok0 l3 (.inr (.inl kr))
       have sN:=sv.lt _ hs
       have q4:=s2.load ok0 (rb.load1 (byC_at (P:=σ.P) sN)) (.inr (.inl kb))
       have nt:aY h' nb (ptrTo bp) γ:=hn.keep okq (s2.keep (Gr.keep gq) gq.n (fun c hc=>.inr (.inr hc)))
       simp only [BS,LB,Nat.reduceLT,Nat.reduceEqDiff,Tryz.FFs3212,r1,r4,q1,q0]
       refine step_ret (jm S.ok nt ha) ?_
       rintro rv h4 ⟨g4,rfl⟩
       replace S:=S.call g4;clear g4
       have ga:γ.arcs[a]=γ.arcs.getD a default:=by simp [xg,ha]
       rw [ga]
       have nM: ∀{c},c=b1\/c∈B-> ¬c=b2:=fun hc e=>by subst e;exact hc.elim (fun h=>d2 h.symm) d1
       simp only [BS,LB,Nat.reduceLT,Nat.reduceEqDiff,Tryz.FFs3212,cl]
       refine ag ax S ?_;clear S;intro h b5 S n_b5
       simp only [BS,LB,Nat.reduceLT,Nat.reduceEqDiff]
       refine az (S.store (i:=0) rfl ?_ ?_ rfl rfl ?_ ono) ?_
       . exact(by exact Tryz.s49)
       . exact(by intro x e;cases e)
       . exact lbt rfl
       clear S;rintro h ⟨S,mo⟩;clear mo;simp only [LC,ah,lay,xu,xw,Nat.reduceAdd]at S
       simp only [BS,LB,Nat.reduceLT,Nat.reduceEqDiff,Tryz.FFs3212,r2,S.ld (b:=b5) (o:=0) m0 rfl]
       refine az (aB S (i:=1) rfl ?_ ?_ ?_ ono) ?_
       . exact(by simp only [Tryz.FFs3212])
       . exact(by exact bO)
       . exact xo (lbt rfl)
       clear S;rintro h ⟨S,mo⟩;clear mo;simp only [LC,ah,lay,xu,xw,Nat.reduceAdd]at S
       have k1:=S.old q1 (nM (.inl rfl))
       have k3:=S.old q3 (nM (.inr kr))
       have k4:=S.old q4 (nM (.inr kb))
       simp only [BS]
       refine aA (aI rfl) (q:=0) (ps:=[]) (by kernel_rfl) ?_
       simp only [BS,LB,cls,Nat.reduceLT,Nat.reduceEqDiff,Nat.reduceAdd,Nat.reducePow,Nat.reduceDiv,Nat.reduceMod,Nat.reduceLeDiff,Tryz.FFs3212,r1,r2,k1,k3,k4,sN,S.ld (b:=b2) (o:=0) m1 rfl]
       have fr:=S.fr
       refine ih (j+1) _ _ (by omega) ⟨by omega,(γ.arcs.getD a default).s,F2,hs,hd.2.symm,?_,nF2,hW _ _ _ _ hj2 fr,S.row (by simp),by simp [aa,r0],by simp [aa,r1,ab],by simp [aa,r2,ab],by simp [aa]⟩
       exact⟨fr.ok,xe s2.n fr.n,fun b hb hd=>(fr.get b (yi hb s2.n) (by rcases hd with h|h|h;exact nM (.inl h);exact nM (.inr h);exact fun e=>by omega)).trans (s2.data b hb hd),s2.apart,fun b hb=>yi (s2.lt b hb) fr.n⟩
     . intro h' a' _
       simp only [BS,LB,Nat.reduceLT,Nat.reduceEqDiff]
       exact cQ (c5 ⟨rfl,_,rfl,rfl,.inr (.inl ⟨_,rfl,a'⟩)⟩)
     . intro v h' a'
       exact absurd a' (hz v h')
 . exact⟨xJ _,u0,F,hu,by rw [xB],s',fun hm=>hF b2 hm rfl,hj,row2,by simp [aa,cm],by simp [aa,cm,ab],by simp [aa,cm,ab],by simp [aa]⟩
open Tryz in
def Tryz.FFs4137:=aj a1<|aj s1<|aj z1<|aj n1<|aj u2<|aj a2<|aj s2<|aj z2<|aj i2<|aj u3<|aj a3<|aj s3<|aj z3<|aj i3<|aj u4<|aj a4<|aj s4<|aj z4<|aj n4<|aj u38<|aj a38<|aj s38<|aj z38<|aj q38<|n38
def rvC(n k:Nat)(f:Nat->Value):List Value:=(xq n).map fun p=>if p<k\/n<=p+k then f (n-1-p)else f p
theorem jP{n k:Nat}{f:Nat->Value}:(rvC n k f).length=n:=by simp [rvC]
theorem mK{n k i:Nat}{f:Nat->Value}(h:i<n):(rvC n k f)[i]? =some (if i<k\/n<=i+k then f (n-1-i)else f i):=gZ (F:=fun p=>if p<k\/n<=p+k then f (n-1-p)else f p) h
theorem rvC_step{n k:Nat}{f:Nat->Value}(h:2*k+1<n):((rvC n k f).set k (f (n-1-k))).set (n-1-k) (f k)=rvC n (k+1) f:=by
 refine xy fun i=>?_
 rw [ym,ym,List.length_set,jP]
 by_cases hi:i<n
 . rw [mK hi,mK hi]
   by_cases e1:n-1-k=i
   . subst e1
     rw [if_pos rfl,if_pos hi,if_pos (.inr (by omega)),show n-1-(n-1-k)=k by omega]
   . rw [if_neg e1]
     by_cases e2:k=i
     . subst e2
       rw [if_pos rfl,if_pos hi,if_pos (.inl (by omega))]
     . rw [if_neg e2]
       congr 1
       by_cases c:i<k\/n<=i+k
       . rw [if_pos c,if_pos (by omega)]
       . rw [if_neg c,if_neg (by omega)]
 . rw [if_neg (by omega),if_neg (by omega)]
   rw [xn (by rw [jP];omega),xn (by rw [jP];omega)]
theorem rvC_zero{xs:List Nat}:xs.flatMap cw=rvC xs.length 0 fun p=>.int .i64 (xs.getD p 0:Nat):=by
 have e:xs.flatMap cw=xs.map fun(x:Nat)=>Value.int .i64 x:=by
  rw [xk,xM,xk];rfl
 rw [e]
 refine xy fun i=>?_
 by_cases hi:i<xs.length
 . rw [mK hi,if_neg (by omega)];simp [hi]
 . rw [xn (by simpa using hi),xn (by rw [jP];omega)]
theorem rvC_done{xs:List Nat}{k:Nat}(h:xs.length<=2*k+1)(hk:2*k<=xs.length):rvC xs.length k (fun p=>.int .i64 (xs.getD p 0:Nat))=xs.reverse.flatMap cw:=by
 have e:xs.reverse.flatMap cw=xs.reverse.map fun(x:Nat)=>Value.int .i64 x:=by
  rw [xk,xM,xk];rfl
 rw [e]
 refine xy fun i=>?_
 by_cases hi:i<xs.length
 . rw [mK hi,xP,List.getElem?_reverse hi]
   have hj:xs.length-1-i<xs.length:=by omega
   rw [xh hj]
   have g: ∀{j:Nat} (hj:j<xs.length),xs.getD j 0=xs[j]:=fun hj=>by simp [xg,hj]
   by_cases c:i<k\/xs.length<=i+k
   . rw [if_pos c,g hj];rfl
   . rw [if_neg c]
     have:i=xs.length-1-i:=by omega
     rw [g hi]
     simp only [ya]
     congr 3
     simp only [<-this]
 . rw [xn (by rw [jP];omega),xn (by simpa using hi)]
theorem vr{h0:Hp}(ok:h0.t.Sized h0.n){v:Value}{xs:List Nat}(hG:ew h0 (v,1,xs.flatMap cw))(hn:xs.length<1000000):
 Ret xc 137 [v] h0 fun _ h'=>Mo (au v) h0 h'/\ew h' (v,1,xs.reverse.flatMap cw):=by
 rcases hG with⟨e1,e2⟩|⟨b,n,e1,e2,e3⟩
 . simp only []at e1 e2
   subst e1
   have:xs=[]:=by
    cases xs with
    |nil=>rfl
    |cons a l=>simp [cw]at e2
   subst this
   have S:=Si ok
   refine ac (n:=28) (rs:=[]) rfl Tryz.e137 rfl rfl rfl (lbt rfl) ?_
   simp only [BS,LB,Nat.reduceLT,Nat.reduceEqDiff,Int.reduceSub,xm,Tryz.FFs4137]
   rw [cq]
   have wm:ao .i64 (-1)= -1:=rfl
   have c0: ¬((0:Int)< -1):=by omega
   simp only [BS,LB,Nat.reduceLT,Nat.reduceEqDiff,wm,c0]
   exact⟨S.gr.fr,.inl ⟨rfl,rfl⟩⟩
 . simp only []at e1 e2 e3
   subst e1
   have en:n=xs.length:=by rw [pX]at e2;omega
   subst en
   rw [rvC_zero]at e3
   have S:=St.init1 ok (o:=.row _ 1) e3
   have w1:ao .i64 ((xs.length:Int)-1)=(xs.length:Int)-1:=by rw [wrap64]<;>omega
   refine ac (n:=28) (rs:=[]) rfl Tryz.e137 rfl rfl rfl (lbt rfl) ?_
   simp only [BS,LB,Nat.reduceLT,Nat.reduceEqDiff,Tryz.FFs4137,w1]
   refine aV (fun(k:Nat) ρ h=>2*k<=xs.length/\St (· =b) h0 h [(b,.row (rvC xs.length k fun p=>.int .i64 (xs.getD p 0:Nat)) 1)] []/\ρ 0=.slice (some ⟨b,0,some 1⟩) xs.length xs.length/\ρ 2=.int .i64 (k:Nat)/\ρ 3=.int .i64 ((xs.length:Int)-1-k)) (fun k=>xs.length-k) ?_ 0 _ _ ?_
   . clear S
     intro k ih ρ hS ⟨hk,S,r0,r2,r3⟩
     by_cases hlt:2*k+1<xs.length
     . have c1:(k:Int)<(xs.length:Int)-1-k:=by omega
       have hk1:k<xs.length:=by omega
       have hk2:xs.length-1-k<xs.length:=by omega
       have ej:(xs.length:Int)-1-k=((xs.length-1-k:Nat):Int):=by omega
       have wa:ao .i64 ((k:Int)+1)=((k+1:Nat):Int):=by rw [wrap64]<;>omega
       have wb:ao .i64 (((xs.length-1-k:Nat):Int)-1)=(xs.length:Int)-1-(k+1:Nat):=by rw [wrap64]<;>omega
       have q1:=(S.row (b:=b) m0).load1 (mK hk1)
       have q2:=(S.row (b:=b) m0).load1 (mK hk2)
       rw [if_neg (by omega)]at q1 q2
       rw [ej]at r3 c1
       simp only [BS,LB,Nat.reduceLT,Nat.reduceEqDiff,r2,r3,c1]
       refine aA (aI rfl) (q:=0) (ps:=[]) (by kernel_rfl) ?_
       simp only [BS,LB,cls,Nat.reduceLT,Nat.reduceEqDiff,Nat.reduceAdd,Nat.reducePow,Nat.reduceDiv,Nat.reduceMod,Nat.reduceLeDiff,Tryz.FFs4137,r0,r2,r3,hk1,hk2,q1,q2]
       refine dV (aB S (i:=0) rfl yg bO (by rw [jP];exact hk1) ono) ?_
       clear S;rintro h3 ⟨S,mo1⟩
       simp only [LC]at S
       simp only [BS,LB,cls,Nat.reduceLT,Nat.reduceEqDiff,Nat.reduceAdd,Nat.reducePow,Nat.reduceDiv,Nat.reduceMod,Nat.reduceLeDiff,Tryz.FFs4137,hk2]
       refine dV (aB S (i:=0) rfl yg bO (by rw [List.length_set,jP];exact hk2) ono) ?_
       clear S;rintro h4 ⟨S,mo2⟩
       simp only [LC]at S
       have st:=rvC_step (f:=fun p=>.int .i64 (xs.getD p 0:Nat)) hlt
       rw [st]at S
       simp only [BS,LB,Nat.reduceLT,Nat.reduceEqDiff,Nat.reduceAdd,r2,r3,wa,wb]
       exact ih (k+1) _ _ (by omega) ⟨by omega,S,by simp [aa,r0],by simp [aa],by simp [aa]⟩
     . have c1: ¬(k:Int)<(xs.length:Int)-1-k:=by omega
       simp only [BS,LB,Nat.reduceLT,Nat.reduceEqDiff,r2,r3,c1]
       have fin:=S.row m0
       rw [rvC_done (by omega) hk]at fin
       exact⟨S.fr.mono (fun c hc=>Eq.symm hc),.inr ⟨b,xs.length,rfl,by show xs.length*1=(xs.reverse.flatMap cw).length;rw [pX,List.length_reverse];omega,fin⟩⟩
   . exact⟨by omega,S,by simp [aa,aQ],by simp [aa],by simp [aa]⟩
open Tryz in
def Tryz.FFs572:=aj a1<|aj s1<|aj z1<|aj n1<|aj u2<|aj a2<|aj s2<|aj z2<|aj i2<|aj u3<|aj a3<|aj s3<|aj z3<|aj i3<|aj u4<|aj a4<|aj s4<|aj z4<|aj n4<|aj u5<|aj a5<|aj s5<|aj z5<|aj i5<|aj u6<|aj a6<|aj s6<|aj z6<|aj i6<|aj a7<|aj s7<|aj z7<|aj i7<|aj n7<|aj p7<|aj ff7<|aj d7<|aj a8<|aj s8<|aj z8<|aj i8<|aj n8<|aj p8<|aj ff8<|aj d8<|aj u9<|aj a9<|aj s9<|aj z9<|aj n9<|aj u10<|aj a10<|aj s10<|aj z10<|aj n10<|aj u11<|aj a11<|aj s11<|aj z11<|aj n11<|aj u25<|aj a25<|aj s25<|aj z25<|aj q25<|aj n25<|aj u29<|aj a29<|aj s29<|aj z29<|aj q29<|aj i29<|aj n29<|aj u38<|aj a38<|aj s38<|aj z38<|aj q38<|aj n38<|aj u43<|aj a43<|aj s43<|aj z43<|aj q43<|aj n43<|aj u52<|aj a52<|aj s52<|aj z52<|aj q52<|aj n52<|aj a54<|aj s54<|aj z54<|aj i54<|aj n54<|aj p54<|aj ff54<|aj d54<|aj a110<|aj s110<|aj z110<|aj n110<|aj a124<|aj s124<|aj z124<|aj n124<|aj u127<|aj a127<|aj s127<|aj z127<|aj q127<|aj i127<|aj n127<|aj a164<|aj s164<|aj z164<|aj i164<|aj n164<|aj p164<|aj ff164<|aj d164<|aj a192<|aj s192<|aj z192<|aj i192<|aj n192<|aj p192<|aj ff192<|aj d192<|aj u198<|aj a198<|aj s198<|aj z198<|aj q198<|aj i198<|aj n198<|aj a200<|aj s200<|aj z200<|aj n200<|aj a202<|aj s202<|aj z202<|aj i202<|aj n202<|aj p202<|aj ff202<|aj d202<|aj a266<|aj s266<|aj z266<|aj i266<|aj n266<|aj p266<|aj ff266<|aj d266<|aj a268<|aj s268<|aj z268<|aj i268<|aj n268<|aj p268<|aj ff268<|d268
def zS:SS:=⟨fun _=>none,fun _=>0,fun _=>[],[],[]⟩
def FdAt(h:Hp)(m:Nat)(r:Value)(fd:Fd):Prop:= ∃vA vE,r=.agg ⟨[.int .i64 (fd.dist:Nat),vA,vE]⟩/\ew h (vA,1,fd.arcs.flatMap cw)/\ew h (vE,4,fd.ev.flatMap iM)/\(∀c,au vA c->m<=c/\ ¬au vE c)/\ ∀c,au vE c->m<=c
theorem ev_scanS(A:List Arc)(al:Nat->Bool)(pi:Nat->Int)(v:Nat)(σ:SS):(ma A al pi v σ).ev.length<=σ.ev.length+A.length:=by
 have: ∀(l:List Nat) (σ:SS),(l.foldl (scan1 A al pi v) σ).ev.length<=σ.ev.length+l.length:=by
  intro l
  induction l with
  |nil=>intro σ;simp
  |cons a l ih=>intro σ;have h1:=ih (scan1 A al pi v σ a);have h2:=tb A al pi v σ a;simp only [List.foldl_cons,List.length_cons];omega
 have h1:=this (outs A Arc.s A.length v) σ
 have h2:=ja A Arc.s A.length v
 unfold ma
 omega
theorem srun_ok {hq h0:Hp} (okq:hq.t.Sized hq.n) (gq:Gr hq h0) {γ:Gra} (hγ:Good γ) {nb bp:Nat} (hn:aY hq nb (ptrTo bp) γ) {B0:List Nat} {br ba s to:Nat} {g1 g2:FuncId} {al:Nat->Bool} {pi:Nat->Int} (R0:eo h0 B0 br (ptrTo bp) (.func (.func g1) #[] #[ptrTo ba]) (.func (.func g2) #[] #[ptrTo ba]) γ.nodes zS) (hB0: ∀c∈B0,hq.n<=c) (hal:AlF xc hq g1 ba γ.arcs.length al) (hpi:PiF xc hq g2 ba γ.nodes pi) (hp: ∀v,v<γ.nodes-> -(FAR:Int)<=pi v)
 (hs:s<γ.nodes) (hto:to<γ.nodes):
 Ret xc 72 [ptrTo br,.int .i64 (s:Nat),.int .i64 (to:Nat)] h0 fun r h'=>Gr hq h'/\ ∃fd,Ends γ.arcs al pi to (fK pi s) fd/\FdAt h' hq.n r fd:=by
 have ok:=gq.ok
 have n1:=hγ.n1
 have n2:=hγ.n2
 have many:=hγ.many
 have wm:=jM
 have fr:=iP
 have hA: ∀a∈γ.arcs,a.t<γ.nodes/\a.w<=cL:=fun a ha=>⟨(hγ.arcs a ha).2.1,(hγ.arcs a ha).2.2⟩
 have lB:=R0.lt ok
 have S:=Si ok
 refine ac (n:=79) (rs:=[.cell 6 54]) rfl Tryz.e72 rfl rfl rfl (lbt rfl) ?_
 simp only [BS,Tryz.FFs572]
 refine ag ax S ?_;clear S;intro h b6 S n_b6
 simp only [BS,LB,Nat.reduceLT,Nat.reduceEqDiff]
 have row6:=S.row (b:=b6) m0
 have gA:=S.gr
 have okA:=S.ok
 have l6:=row6.lt okA
 have n6:b6∉B0:=fun h=>by have:=lB b6 h;have:=n_b6;omega
 have q6:hq.n<=b6:=xe gq.n n_b6
 clear S
 rename Hp=>hA'
 have rc:Ret xc 133 [ptrTo br,.int .i64 (s:Nat),.int .i64 0,.int .i64 (-1)] hA' _:=sH (p:=[]) (lab:=0) (gq.trans gA) (R0.gr gA) hpi n2 hs (xJ _) (hp s hs) (fun k h=>by cases h)
 refine step_ret rc ?_
 rintro r h1 ⟨f1,B1,R1,hB1⟩
 clear rc
 simp only [BS]
 refine aV (fun(σ:SS) ρ h=> ∃B,Mo (fun c=>c∈B0\/c=b6) hA' h/\Row h b6 [.int .i64 0,.slice none 0 0,.slice none 0 0] 1/\eo h B br (ptrTo bp) (.func (.func g1) #[] #[ptrTo ba]) (.func (.func g2) #[] #[ptrTo ba]) γ.nodes σ/\(∀c∈B,c∈B0\/hA'.n<=c)/\Sv γ.arcs γ.nodes s al pi σ/\σ.ev.length<=σ.O.length*200/\(∀r,Ends γ.arcs al pi to σ r->Ends γ.arcs al pi to (fK pi s) r)/\ρ 0=ptrTo br/\ρ 1=.int .i64 (s:Nat)/\ρ 2=.int .i64 (to:Nat)/\ρ 6=ptrTo b6) (fun σ=>γ.nodes-σ.O.length) ?_ (fK pi s) _ _ ?_
 . clear R1 f1 hB1 B1 h1
   intro σ ih ρ hS ⟨B,f,row6',R,hB,sv,hev,hE,r0,r1,r2,r6⟩
   have hBq: ∀c∈B,hq.n<=c:=fun c hc=>(hB c hc).elim (hB0 c) (fun h=>by have:=(gq.trans gA).n;omega)
   have gh:Gr hq hS:=(((gq.trans gA).fr (M:=NoM)).trans f (fun c hc=>.inr (hc.elim (hB0 c) (fun e=>by subst e;exact q6)))).gr
   have b6B:b6∉B:=fun h=>(hB b6 h).elim n6 (fun h=>by omega)
   have ol:=sv.len
   have ol2:σ.O.length*cL<=12*cL:=xZ _ (xe ol n2)
   obtain⟨bl,bb,bk,ph,F,vE,hBe,S,H,hF⟩:=R.open f.ok
   have hk0: ∀c∈keys (srL br bl bb bk γ.nodes (ptrTo bp) (ptrTo ph) (.func (.func g1) #[] #[ptrTo ba]) (.func (.func g2) #[] #[ptrTo ba]) vE σ) (srG vE σ),c∈B:=fun c hc=>by rw [hBe];exact xf _ hc
   have hk1: ∀c∈F,c∈B:=fun c hc=>by rw [hBe];exact xi _ hc
   have lF:=H.lt f.ok
   replace S:=(S.base.mono (M':=fun c=>c∈B\/c=b6) (fun c hc=>.inl (hk0 c hc))).push (b:=b6) (o:=.row _ 1) (.inr (.inr rfl)) row6' (fun h=>b6B (hk0 b6 h))
   have hF6: ∀c∈F,c≠b6:=fun c hc e=>b6B (by rw [<-e];exact hk1 c hc)
   have hFS: ∀c∈F,c∉keys ((b6,Ob.row [.int .i64 0,.slice none 0 0,.slice none 0 0] 1)::srL br bl bb bk γ.nodes (ptrTo bp) (ptrTo ph) (.func (.func g1) #[] #[ptrTo ba]) (.func (.func g2) #[] #[ptrTo ba]) vE σ) (srG vE σ):=fun c hc hm=>(List.mem_cons.1 hm).elim (hF6 c hc) (hF c hc)
   unfold srL srG at S
   simp only [BS,LB,Nat.reduceLT,Nat.reduceEqDiff,Tryz.FFs572,r0,S.ld (b:=br) (o:=1) m1 rfl]
   refine step_ret (qr S.ok H (by omega)) ?_
   rintro rv h2 (⟨rfl,hnone,g2'⟩|⟨v,k,rfl,hk,hmin,f2,H2⟩)
   . replace S:=S.call g2'
     have fvE:Fl vE:=(S.gown _ m0).1.fl
     simp only [BS,LB,Nat.reduceLT,Nat.reduceEqDiff,Nat.reduceAdd,Tryz.FFs572,r0,r6,fvE,S.ld (b:=br) (o:=7) m1 rfl]
     refine az (S.store (i:=0) rfl xW (by intro x e;cases e) rfl (by simp only [ah,xU,yb,fvE.2.1,xx];rfl) (lbt rfl) ono) ?_
     clear S;rintro h3 ⟨S,mo⟩
     simp only [LC,ah,lay,xu,xw,Nat.reduceAdd]at S
     simp only [BS,ae]
     refine(gH (by decide) (by simp only [aU,r6,ab,Nat.reduceEqDiff,reduceIte];exact dH yK xW (S.lds (b:=b6) (o:=0) (n:=3) m0 (lbt rfl)))).2 (fj.2 ?_)
     refine⟨(gh.fr (M:=NoM)).trans S.fr (fun c hc=>.inr (hc.elim (hBq c) (fun e=>by subst e;exact q6)))|>.gr,_,hE _ (.none hnone),.slice none 0 0,vE,rfl,.inl ⟨rfl,rfl⟩,(S.gown _ m0).1,fun c hc=>hc.elim,fun c hc=>?_⟩
     have:=(S.gown _ m0).2 c (nu (S.gown _ m0).1 hc)
     exact this.elim (fun h=>xe gh.n h) (fun h=>h.elim (hBq c) (fun e=>by subst e;exact q6))
   . have hpop:Pops σ.K v k:=⟨hk,hmin⟩
     obtain⟨ov,nO,pv,ek⟩:=sv.op v k hk
     replace S:=S.stepF f2 (fun c hc=>⟨.inl (.inl (hk1 c hc)),hFS c hc⟩)
     have bv:=(sv.bd v).1
     have Sp:=S
     have lF2:=H2.lt Sp.ok
     have kp: ∀c∈keys ((b6,Ob.row [.int .i64 0,.slice none 0 0,.slice none 0 0] 1)::srL br bl bb bk γ.nodes (ptrTo bp) (ptrTo ph) (.func (.func g1) #[] #[ptrTo ba]) (.func (.func g2) #[] #[ptrTo ba]) vE σ) (srG vE σ),hS.n<=c\/c∈B\/c=b6:=fun c hc=>Sp.key_own hc
     have kl:=fun {c} hc=>Sp.key_lt (b:=c) hc
     have np:=Sp.fr.n
     replace S:=S.base
     have fvE:Fl vE:=(S.gown _ m0).1.fl
     simp only [BS,LB,Nat.reduceLT,Nat.reduceEqDiff,Tryz.FFs572,r0,ov,S.ld (b:=br) (o:=4) m1 rfl]
     refine az (aB S (i:=4) rfl Tryz.s4 mL (by rw [clC_len];exact ov) ono) ?_
     clear S;rintro h3 ⟨S,mo3⟩
     simp only [LC]at S
     rw [clC_set]at S
     have lL:=(S.row (b:=bl) m2).load1 (oR (L:=σ.L) ov)
     simp only [BS]
     refine aA (aI rfl) (q:=16384) (ps:=[]) (by kernel_rfl) ?_
     simp only [BS,LB,cls,Nat.reduceLT,Nat.reduceEqDiff,Nat.reduceAdd,Nat.reducePow,Nat.reduceDiv,Nat.reduceMod,Nat.reduceLeDiff,Tryz.FFs572,r0,ov,lL,S.ld (b:=br) (o:=7) m1 rfl,S.ld (b:=br) (o:=2) m1 rfl]
     refine dT (bW (by exact yJ) (by exact yA) (by decide) (by rfl)) S ?_;clear S;intro h bs S n_bs e_bs;simp only [LC,aP,bj,ah,Nat.reduceMul,Nat.reduceAdd,xF,xE,xt,xS]at S
     simp only [BS,LB,cls,Nat.reduceLT,Nat.reduceEqDiff,Nat.reduceAdd,Nat.reducePow,Nat.reduceDiv,Nat.reduceMod,Nat.reduceLeDiff]
     have src:aO h 4 (.slice (some ⟨bs,0,none⟩) 1 1)=some (1,iM ⟨0,v,σ.L v⟩):=by simp only [aO];rw [S.lds (b:=bs) (o:=0) (n:=1*4) m0 (lbt rfl)];rfl
     replace S:=S.drop1
     refine dn_v (S.grow (j:=0) (m:=1) (new:=iM ⟨0,v,σ.L v⟩) rfl yJ yA (by decide) Tryz.n52 src rfl (by decide) rfl (by rw [aS tS];show(_+4)*_<=_;omega)) ?_
     clear S src;rintro h2 vE' S
     simp only [LC]at S
     have fvE':Fl vE':=(S.gown _ m0).1.fl
     simp only [BS,LB,cls,Nat.reduceLT,Nat.reduceEqDiff,Nat.reduceAdd,Nat.reducePow,Nat.reduceDiv,Nat.reduceMod,Nat.reduceLeDiff,Tryz.FFs572]
     refine dV (aB S (i:=1) rfl Tryz.s52 fvE' (xo (lbt rfl)) ono) ?_
     clear S;rintro h3 ⟨S,_⟩
     simp only [LC]at S
     have eE:(σ.ev++[(⟨0,v,σ.L v⟩:Ev)]).flatMap iM=σ.ev.flatMap iM++iM ⟨0,v,σ.L v⟩:=by rw [ye];simp
     rw [<-eE]at S
     have bq: ∀c,hS.n<=c\/c∈B\/c=b6->hq.n<=c:=fun c hc=>hc.elim (fun h=>xe gh.n h) (fun h=>h.elim (hBq c) (fun e=>by subst e;exact q6))
     have wq:=(((gh.fr (M:=NoM)).trans Sp.fr (fun c hc=>.inr (bq c (.inr hc)))).trans S.fr (fun c hc=>.inr (bq c (kp c hc)))).gr
     have svc:=sv.close hk
     have kn:=fun {c} hc=>S.key_own (b:=c) hc
     have nS:=S.fr.n
     have hFc: ∀c∈F,c∉keys (srL br bl bb bk γ.nodes (ptrTo bp) (ptrTo ph) (.func (.func g1) #[] #[ptrTo ba]) (.func (.func g2) #[] #[ptrTo ba]) vE' (cR σ v)) (srG vE' (cR σ v)):=fun c hc hm=>by
      rcases kn (xA _ hm)with h|h
      . have:=lF2 c hc;omega
      . exact hFS c hc h
     have Hc:cj _ F (ptrTo ph) γ.nodes (cR σ v).K:=H2.mo S.fr (fun c hc hm=>hFS c hc hm)
     have Rc:=eo.close (σ:=cR σ v) (vE:=vE') S.drop1 Hc hFc
     have hBc: ∀c∈keys (srL br bl bb bk γ.nodes (ptrTo bp) (ptrTo ph) (.func (.func g1) #[] #[ptrTo ba]) (.func (.func g2) #[] #[ptrTo ba]) vE' (cR σ v)) (srG vE' (cR σ v))++F,hS.n<=c\/c∈B:=fun c hc=>by
      rcases List.mem_append.1 hc with hc|hc
      . have ne:c≠b6:=fun e=>by
         subst e
         exact(List.nodup_cons.1 S.apart).1 hc
        rcases kn (xA _ hc)with h|h
        . exact .inl (by omega)
        . exact(kp c h).imp (fun h=>h) (fun h=>h.elim (fun h=>h) (fun e=>absurd e ne))
      . exact .inr (hk1 c hc)
     have hBcq: ∀c∈keys (srL br bl bb bk γ.nodes (ptrTo bp) (ptrTo ph) (.func (.func g1) #[] #[ptrTo ba]) (.func (.func g2) #[] #[ptrTo ba]) vE' (cR σ v)) (srG vE' (cR σ v))++F,hq.n<=c:=fun c hc=>bq c ((hBc c hc).imp (fun h=>h) .inl)
     have okc:=S.ok
     have k3:=fun {c} hc=>S.key_lt (b:=c) hc
     have bo: ∀c,hS.n<=c\/c∈B\/c=b6->(c∈B0\/c=b6)\/hA'.n<=c:=fun c hc=>hc.elim (fun h=>.inr (xe f.n h)) (fun h=>h.elim (fun h=>(hB c h).imp .inl (fun h=>h)) (fun e=>.inl (.inr e)))
     have lbc:=Rc.lt okc
     by_cases hv:v=to
     . subst hv
       simp only [BS,LB,Nat.reduceLT,Nat.reduceEqDiff,Nat.reduceAdd,r0,r2]
       refine step_ret (sback_ok S.ok) ?_
       rintro rv h4 ⟨g4,b1,b2,rfl,nb1,nb2,nb,e1,e2⟩
       replace S:=S.call g4
       have gn4:=g4.n
       simp only [BS,LB,Nat.reduceLT,Nat.reduceEqDiff]
       have pl:=(svc.bd v).2
       have ol4:=svc.len
       refine step_ret (pK S.ok (back_it okq (wq.trans g4) hγ hn (Rc.gr g4) svc (xi _ (by simp)) e1 e2 (fun h=>by have:=lbc b2 h;omega) nb (xe wq.n nb2)) (fun b hb=>by subst hb;exact e2.lt g4.ok) (by omega)) ?_
       rintro vA h5 ⟨fW,gA5,hcA⟩
       replace S:=S.step fW (fun c hc=>.inr (by subst hc;omega)) (fun c hc e=>by subst e;have:=k3 hc;omega)
       simp only [BS,LB,Nat.reduceLT,Nat.reduceEqDiff]
       refine step_ret (vr S.ok gA5 (by omega)) ?_
       rintro rv h6 ⟨fR,gR⟩
       have gn5:=fW.n
       have nAk: ∀c,au vA c->_<=c:=hcA
       replace S:=S.step fR (fun c hc=>.inr (by have:=hcA c hc;omega)) (fun c hc hb=>by have:=k3 hc;have:=hcA c hb;omega)
       have fvA:Fl vA:=gR.fl
       have lL:=(S.row (b:=bl) m2).load1 (oR (L:=σ.L) ov)
       simp only [BS]
       refine aA (aI rfl) (q:=0) (ps:=[]) (by kernel_rfl) ?_
       simp only [BS,LB,cls,Nat.reduceLT,Nat.reduceEqDiff,Nat.reduceAdd,Nat.reducePow,Nat.reduceDiv,Nat.reduceMod,Nat.reduceLeDiff,Tryz.FFs572,r0,r2,r6,ov,lL,fvE',fvA,S.ld (b:=br) (o:=2) m1 rfl,S.ld (b:=br) (o:=7) m1 rfl]
       refine dV (S.store (i:=0) rfl xW (by intro x e;cases e) rfl (by simp only [ah,xU,yb,fvE'.2.1,fvA.2.1,xx];rfl) (lbt rfl) ono) ?_
       have b6A: ∀c,au vA c->c≠b6:=fun c hc e=>by have:=hcA c hc;have:=k3 (c:=b6) (by simp [keys]);omega
       have kA: ∀c,au vA c-> ¬au vE' c:=fun c hc he=>by
        have:=hcA c hc
        have:=k3 (eI (p:=(vE',4,_)) m0 (nu (S.gown _ m0).1 he))
        omega
       clear S;rintro h7 ⟨S,mo⟩
       simp only [LC,ah,lay,xu,xw,Nat.reduceAdd]at S
       simp only [BS,LB,ae,Nat.reduceAdd]
       refine(gH (by decide) (by simp only [aU,r6,ab,Nat.reduceEqDiff,reduceIte];exact dH yK xW (S.lds (b:=b6) (o:=0) (n:=3) m0 (lbt rfl)))).2 (fj.2 ?_)
       have wq7:=(((gh.fr (M:=NoM)).trans Sp.fr (fun c hc=>.inr (bq c (.inr hc)))).trans S.fr (fun c hc=>.inr (bq c (kp c hc)))).gr
       refine⟨wq7,_,hE _ (.hit hpop),vA,vE',rfl,gR.of_get (fun c hc=>mo.get c (gR.lt fR.ok hc) ?_),(S.gown _ m0).1,fun c hc=>⟨by have:=hcA c hc;have:=wq.n;omega,kA c hc⟩,fun c hc=>?_⟩
       . obtain⟨a',n',e',_⟩: ∃a' n',vA=Value.slice (some ⟨a',0,some 1⟩) n' n'/\a'=c:=by
          rcases gR with⟨e,_⟩|⟨b',n',e,_⟩
          . simp only []at e;rw [e]at hc;cases hc
          . simp only []at e;rw [e]at hc;cases hc;exact⟨_,_,e,rfl⟩
         exact b6A c (by rw [e'];assumption)
       . exact bq c (((S.gown _ m0).2 c (nu (S.gown _ m0).1 hc)).elim (fun h=>.inl (xe np h)) (fun h=>kp c h))
     . have hv': ¬((v:Int)=(to:Int)):=by omega
       simp only [BS,LB,Nat.reduceLT,Nat.reduceEqDiff,Nat.reduceAdd,r0,r2,hv']
       obtain⟨sn1,sn2⟩:=sv.next hA hk
       refine step_ret (sscan_ok okq wq hγ hn Rc hBcq hal hpi hp ov svc (sv.room v) (by show(σ.ev++[_]).length<=10000;simp;omega)) ?_
       rintro rv h4 ⟨f4,B4,R4,hB4⟩
       simp only [BS]
       have es:=ev_scanS γ.arcs al pi v (cR σ v)
       have eO:(ma γ.arcs al pi v (cR σ v)).O=σ.O++[v]:=sn2.O
       have ec:(cR σ v).ev.length=σ.ev.length+1:=by show(σ.ev++[_]).length=_;simp
       have snl:=sn1.len
       rw [eO]at snl
       simp at snl
       refine ih _ _ _ (by rw [eO];simp;omega) ⟨B4,?_,?_,R4,?_,sn1,by rw [eO];simp;omega,fun r hr=>hE r (.step hpop hv hr),by simp [aa,r0,ab],by simp [aa,r1],by simp [aa,r2],by simp [aa,r6,ab]⟩
       . exact((f.trans Sp.fr (fun c hc=>bo c (.inr hc))).trans S.fr (fun c hc=>bo c (kp c hc))).trans f4 (fun c hc=>bo c ((hBc c hc).imp (fun h=>h) .inl))
       . exact f4.has (o:=.row _ 1) (S.row m0) (fun hm=>(hBc b6 hm).elim (fun h=>by have:=f.n;omega) b6B)
       . exact fun c hc=>(hB4 c hc).elim (fun h=>(hBc c h).elim (fun h=>.inr (xe f.n h)) (hB c)) (fun h=>.inr (by have:=f.n;omega))
 . have k0:(fK pi s).ev.length=0:=by unfold fK;rw [uE];rfl
   exact⟨B1,f1.mono (fun c hc=>.inl hc),f1.has (o:=.row _ 1) row6 n6,R1,hB1,sv_init hs,by omega,fun r hr=>hr,by simp [aa,aQ,ab],by simp [aa,aQ,bU],by simp [aa,aQ,bU],by simp [aa,ab]⟩
open Tryz in
def Tryz.FFf2239:=aj a1<|aj s1<|aj z1<|aj n1<|aj u2<|aj a2<|aj s2<|aj z2<|aj i2<|aj u3<|aj a3<|aj s3<|aj z3<|aj i3<|aj u4<|aj a4<|aj s4<|aj z4<|aj n4<|aj u5<|aj a5<|aj s5<|aj z5<|aj i5<|aj u6<|aj a6<|aj s6<|aj z6<|aj i6<|aj a7<|aj s7<|aj z7<|aj i7<|aj n7<|aj p7<|aj ff7<|aj d7<|aj a8<|aj s8<|aj z8<|aj i8<|aj n8<|aj p8<|aj ff8<|aj d8<|aj u9<|aj a9<|aj s9<|aj z9<|aj n9<|aj u10<|aj a10<|aj s10<|aj z10<|aj n10<|aj a20<|aj s20<|aj z20<|aj q20<|aj n20<|aj u25<|aj a25<|aj s25<|aj z25<|aj q25<|aj n25<|aj u185<|aj a185<|aj s185<|aj z185<|i185
open Tryz in
def Tryz.FFf2130:=aj a1<|aj s1<|aj z1<|aj n1<|aj u2<|aj a2<|aj s2<|aj z2<|aj i2<|aj u3<|aj a3<|aj s3<|aj z3<|aj i3<|aj u4<|aj a4<|aj s4<|aj z4<|aj n4<|aj u5<|aj a5<|aj s5<|aj z5<|aj i5<|aj u6<|aj a6<|aj s6<|aj z6<|aj i6<|aj a7<|aj s7<|aj z7<|aj i7<|aj n7<|aj p7<|aj ff7<|aj d7<|aj a8<|aj s8<|aj z8<|aj i8<|aj n8<|aj p8<|aj ff8<|aj d8<|aj u9<|aj a9<|aj s9<|aj z9<|aj n9<|aj u10<|aj a10<|aj s10<|aj z10<|aj n10<|aj a20<|aj s20<|aj z20<|aj q20<|aj n20<|aj u38<|aj a38<|aj s38<|aj z38<|aj q38<|aj n38<|aj u185<|aj a185<|aj s185<|aj z185<|i185
theorem rep64_ok{h0:Hp}(ok:h0.t.Sized h0.n){v:Value}{x:Int}{N:Nat}(hv:aE h0 1 (encI .i64) v [x])(h1:1<=N)(hN:N<1000):Ret xc 239 [v,.int .i64 N] h0 fun r h'=>Gr h0 h'/\ ∃b,r=.slice (some ⟨b,0,none⟩) N N/\h0.n<=b/\Row h' b (xd N (.int .i64 x)) 1:=by
 have S:=Si ok
 have c1: ¬((N:Int)<0):=by omega
 have c2: ¬((9223372036854775807:Int)<(N:Int)):=by omega
 have wn:ao .u64 (N:Int)=(N:Int):=rl (by omega) (by omega)
 have w1:ao .u64 1=1:=rfl
 have wm:ao .i64 (N:Int)=(N:Int):=by rw [wrap64]<;>omega
 obtain⟨bx,ox,sx,cx,rfl,hcx,hx⟩: ∃b o s c,v=.slice (some ⟨b,o,s⟩) 1 c/\1<=c/\h0.load b o 1=some [.int .i64 x]:=by
  rcases hv with⟨_,h⟩|⟨b,o,s,c,rfl,h2,h3⟩
  . cases h
  . exact⟨b,o,s,c,rfl,h2,h3⟩
 refine ac (n:=48) (rs:=[.tmp 4]) rfl Tryz.e239 rfl rfl rfl (lbt rfl) ?_
 simp only [BS,LB,iV,bQ,iW,Nat.reduceLT,Nat.reduceEqDiff,xm,Tryz.FFf2239,c1,wn,w1]
 refine aq (mul_ok S.ok hN) ?_;intro h g;replace S:=S.call g;clear g
 simp only [BS,LB,iV,bQ,iW,Nat.reduceLT,Nat.reduceEqDiff,Int.reduceLT,Tryz.FFf2239,c2,wm]
 refine ag (iw (by exact yo) (by exact Tryz.e2E) (by omega) (by omega)) S ?_;clear S;intro h bb S n_bb
 rw [xj,jS]at S
 simp only [BS,LB,Nat.reduceLT,Nat.reduceEqDiff,xj]
 refine e6 (S.copyO (i:=0) (l:=xd 1 (.int .i64 x)) rfl yo yx (by rw [hZ h1];decide) (by rw [hZ h1];exact S.old hx (fun h=>h)) (by simp;omega) rfl) ?_
 clear S;rintro h w ⟨rfl,S⟩
 simp only [LC]at S
 rw [show xd N (Value.int .i64 0)=xd 0 (.int .i64 x)++xd N (.int .i64 0) by simp,po h1]at S
 rw [hZ h1]
 simp only [BS,LB,Nat.reduceLT,Nat.reduceEqDiff,xm]
 refine aV (fun(n:Nat) ρ h=>1<=n/\n<=N/\St NoM h0 h [(bb,.row (xd n (.int .i64 x)++xd (N-n) (.int .i64 0)) 1)] []/\ρ 7=.slice (some ⟨bb,0,none⟩) N N/\ρ 8=.int .i64 n) (fun n=>N-n) ?_ 1 _ _ ?_
 . clear S
   intro n ih ρ h ⟨hn1,hn,S,r7,r8⟩
   by_cases hlt:n<N
   . simp only [BS,LB,Nat.reduceLT,Nat.reduceEqDiff,Tryz.FFf2239,r7,r8,aG,hlt]
     refine aA (aI rfl) (q:=0) (ps:=[]) (by kernel_rfl) ?_
     simp only [BS,LB,cls,Nat.reduceLT,Nat.reduceEqDiff,Nat.reduceAdd,Nat.reducePow,Nat.reduceDiv,Nat.reduceMod,Nat.reduceLeDiff,ya,yr,r7,r8,tW yo yx hlt,sh yo yx (yn hlt)]
     have hm:0<di n (N-n):=by
      rcases yp n (N-n)with h|h
      . rw [hZ h];omega
      . rw [pj h];omega
     have hm2:di n (N-n)<=N-n/\di n (N-n)<=n:=by
      rcases yp n (N-n)with h|h
      . rw [hZ h];omega
      . rw [pj h];omega
     refine dn_v (S.copyO (i:=0) (l:=xd (di n (N-n)) (.int .i64 x)) rfl yo yx hm ?_ (by simp;omega) (by simp;right;rfl)) ?_
     . rw [(S.row m0).load (by simp;omega),xt,xB]
       congr 1
       rw [yd (by simp;omega),yE]
       congr 1
       omega
     clear S;rintro h w ⟨rfl,S⟩
     simp only [LC]at S
     rw [po hm2.1]at S
     generalize di n (N-n)=k at S hm hm2
     have w:ao .i64 ((n:Int)+(k:Int))=((n+k:Nat):Int):=by rw [wrap64]<;>omega
     simp only [BS,LB,cls,Nat.reduceLT,Nat.reduceEqDiff,Nat.reduceAdd,Nat.reducePow,Nat.reduceDiv,Nat.reduceMod,Nat.reduceLeDiff,w]
     exact ih (n+k) _ _ (by omega) ⟨by omega,by omega,by rw [show N-(n+k)=N-n-k by omega];exact S,by simp [aa,r7],by simp [aa]⟩
   . simp only [BS,LB,ae,Nat.reduceLT,Nat.reduceEqDiff,Tryz.FFf2239,r7,r8,aG,hlt]
     have e:n=N:=by omega
     subst e
     have R:=S.row (b:=bb) m0
     rw [Nat.sub_self,yF,yt]at R
     exact⟨S.gr,bb,rfl,n_bb,R⟩
 . exact⟨xR _,h1,by simpa using S,by simp [aa],by simp [aa]⟩
theorem repI_ok{h0:Hp}(ok:h0.t.Sized h0.n){v:Value}{x:Int}{N:Nat}(hv:aE h0 1 (encI .i64) v [x])(h1:1<=N)(hN:N<1000):Ret xc 130 [v,.int .i64 N] h0 fun r h'=>Gr h0 h'/\ ∃b,r=.slice (some ⟨b,0,none⟩) N N/\h0.n<=b/\Row h' b (xd N (.int .i64 x)) 1:=by
 have S:=Si ok
 have c1: ¬((N:Int)<0):=by omega
 have c2: ¬((9223372036854775807:Int)<(N:Int)):=by omega
 have wn:ao .u64 (N:Int)=(N:Int):=rl (by omega) (by omega)
 have w1:ao .u64 1=1:=rfl
 have wm:ao .i64 (N:Int)=(N:Int):=by rw [wrap64]<;>omega
 obtain⟨bx,ox,sx,cx,rfl,hcx,hx⟩: ∃b o s c,v=.slice (some ⟨b,o,s⟩) 1 c/\1<=c/\h0.load b o 1=some [.int .i64 x]:=by
  rcases hv with⟨_,h⟩|⟨b,o,s,c,rfl,h2,h3⟩
  . cases h
  . exact⟨b,o,s,c,rfl,h2,h3⟩
 refine ac (n:=48) (rs:=[.tmp 4]) rfl Tryz.e130 rfl rfl rfl (lbt rfl) ?_
 simp only [BS,LB,iV,bQ,iW,Nat.reduceLT,Nat.reduceEqDiff,xm,Tryz.FFf2130,c1,wn,w1]
 refine aq (mul_ok S.ok hN) ?_;intro h g;replace S:=S.call g;clear g
 simp only [BS,LB,iV,bQ,iW,Nat.reduceLT,Nat.reduceEqDiff,Int.reduceLT,Tryz.FFf2130,c2,wm]
 refine ag (iw (by exact xH) (by exact xV) (by omega) (by omega)) S ?_;clear S;intro h bb S n_bb
 rw [xj,jS]at S
 simp only [BS,LB,Nat.reduceLT,Nat.reduceEqDiff,xj]
 refine e6 (S.copyO (i:=0) (l:=xd 1 (.int .i64 x)) rfl xH yg (by rw [hZ h1];decide) (by rw [hZ h1];exact S.old hx (fun h=>h)) (by simp;omega) rfl) ?_
 clear S;rintro h w ⟨rfl,S⟩
 simp only [LC]at S
 rw [show xd N (Value.int .i64 0)=xd 0 (.int .i64 x)++xd N (.int .i64 0) by simp,po h1]at S
 rw [hZ h1]
 simp only [BS,LB,Nat.reduceLT,Nat.reduceEqDiff,xm]
 refine aV (fun(n:Nat) ρ h=>1<=n/\n<=N/\St NoM h0 h [(bb,.row (xd n (.int .i64 x)++xd (N-n) (.int .i64 0)) 1)] []/\ρ 7=.slice (some ⟨bb,0,none⟩) N N/\ρ 8=.int .i64 n) (fun n=>N-n) ?_ 1 _ _ ?_
 . clear S
   intro n ih ρ h ⟨hn1,hn,S,r7,r8⟩
   by_cases hlt:n<N
   . simp only [BS,LB,Nat.reduceLT,Nat.reduceEqDiff,Tryz.FFf2130,r7,r8,aG,hlt]
     refine aA (aI rfl) (q:=0) (ps:=[]) (by kernel_rfl) ?_
     simp only [BS,LB,cls,Nat.reduceLT,Nat.reduceEqDiff,Nat.reduceAdd,Nat.reducePow,Nat.reduceDiv,Nat.reduceMod,Nat.reduceLeDiff,ya,yr,r7,r8,tW xH yg hlt,sh xH yg (yn hlt)]
     have hm:0<di n (N-n):=by
      rcases yp n (N-n)with h|h
      . rw [hZ h];omega
      . rw [pj h];omega
     have hm2:di n (N-n)<=N-n/\di n (N-n)<=n:=by
      rcases yp n (N-n)with h|h
      . rw [hZ h];omega
      . rw [pj h];omega
     refine dn_v (S.copyO (i:=0) (l:=xd (di n (N-n)) (.int .i64 x)) rfl xH yg hm ?_ (by simp;omega) (by simp;right;rfl)) ?_
     . rw [(S.row m0).load (by simp;omega),xt,xB]
       congr 1
       rw [yd (by simp;omega),yE]
       congr 1
       omega
     clear S;rintro h w ⟨rfl,S⟩
     simp only [LC]at S
     rw [po hm2.1]at S
     generalize di n (N-n)=k at S hm hm2
     have w:ao .i64 ((n:Int)+(k:Int))=((n+k:Nat):Int):=by rw [wrap64]<;>omega
     simp only [BS,LB,cls,Nat.reduceLT,Nat.reduceEqDiff,Nat.reduceAdd,Nat.reducePow,Nat.reduceDiv,Nat.reduceMod,Nat.reduceLeDiff,w]
     exact ih (n+k) _ _ (by omega) ⟨by omega,by omega,by rw [show N-(n+k)=N-n-k by omega];exact S,by simp [aa,r7],by simp [aa]⟩
   . simp only [BS,LB,ae,Nat.reduceLT,Nat.reduceEqDiff,Tryz.FFf2130,r7,r8,aG,hlt]
     have e:n=N:=by omega
     subst e
     have R:=S.row (b:=bb) m0
     rw [Nat.sub_self,yF,yt]at R
     exact⟨S.gr,bb,rfl,n_bb,R⟩
 . exact⟨xR _,h1,by simpa using S,by simp [aa],by simp [aa]⟩
open Tryz in
def Tryz.FFs6131:=aj a1<|aj s1<|aj z1<|aj n1<|aj u2<|aj a2<|aj s2<|aj z2<|aj i2<|aj u3<|aj a3<|aj s3<|aj z3<|aj i3<|aj u4<|aj a4<|aj s4<|aj z4<|aj n4<|aj u25<|aj a25<|aj s25<|aj z25<|aj q25<|aj n25<|aj u43<|aj a43<|aj s43<|aj z43<|aj q43<|aj n43<|aj a59<|aj s59<|aj z59<|aj i59<|aj n59<|aj p59<|aj ff59<|d59
open Tryz in
def Tryz.FFs6132:=aj a1<|aj s1<|aj z1<|aj n1<|aj u2<|aj a2<|aj s2<|aj z2<|aj i2<|aj u3<|aj a3<|aj s3<|aj z3<|aj i3<|aj u4<|aj a4<|aj s4<|aj z4<|aj n4<|aj u25<|aj a25<|aj s25<|aj z25<|aj q25<|aj n25<|aj u43<|aj a43<|aj s43<|aj z43<|aj q43<|aj n43<|aj a59<|aj s59<|aj z59<|aj i59<|aj n59<|aj p59<|aj ff59<|d59
open Tryz in
def Tryz.FFs671:=aj a1<|aj s1<|aj z1<|aj n1<|aj u2<|aj a2<|aj s2<|aj z2<|aj i2<|aj u3<|aj a3<|aj s3<|aj z3<|aj i3<|aj u4<|aj a4<|aj s4<|aj z4<|aj n4<|aj u5<|aj a5<|aj s5<|aj z5<|aj i5<|aj u6<|aj a6<|aj s6<|aj z6<|aj i6<|aj u25<|aj a25<|aj s25<|aj z25<|aj q25<|aj n25<|aj a28<|aj s28<|aj z28<|aj i28<|aj n28<|aj p28<|aj ff28<|aj d28<|aj u29<|aj a29<|aj s29<|aj z29<|aj q29<|aj i29<|aj n29<|aj u38<|aj a38<|aj s38<|aj z38<|aj q38<|aj n38<|aj u43<|aj a43<|aj s43<|aj z43<|aj q43<|aj n43<|aj u52<|aj a52<|aj s52<|aj z52<|aj q52<|aj n52<|aj a59<|aj s59<|aj z59<|aj i59<|aj n59<|aj p59<|aj ff59<|aj d59<|aj a124<|aj s124<|aj z124<|aj n124<|aj u127<|aj a127<|aj s127<|aj z127<|aj q127<|aj i127<|aj n127<|aj a164<|aj s164<|aj z164<|aj i164<|aj n164<|aj p164<|aj ff164<|aj d164<|aj u190<|aj a190<|aj s190<|aj z190<|aj q190<|aj n190<|aj a192<|aj s192<|aj z192<|aj i192<|aj n192<|aj p192<|aj ff192<|aj d192<|aj u198<|aj a198<|aj s198<|aj z198<|aj q198<|aj i198<|aj n198<|aj a200<|aj s200<|aj z200<|aj n200<|aj a202<|aj s202<|aj z202<|aj i202<|aj n202<|aj p202<|aj ff202<|aj d202<|aj a266<|aj s266<|aj z266<|aj i266<|aj n266<|aj p266<|aj ff266<|aj d266<|aj a268<|aj s268<|aj z268<|aj i268<|aj n268<|aj p268<|aj ff268<|d268
open Tryz in
def Tryz.FFs669:=aj a1<|aj s1<|aj z1<|aj n1<|aj u3<|aj a3<|aj s3<|aj z3<|aj i3<|aj u4<|aj a4<|aj s4<|aj z4<|aj n4<|aj u43<|aj a43<|aj s43<|aj z43<|aj q43<|n43
open Tryz in
def Tryz.FFs670:=aj a1<|aj s1<|aj z1<|aj n1<|aj u2<|aj a2<|aj s2<|aj z2<|aj i2<|aj u3<|aj a3<|aj s3<|aj z3<|aj i3<|aj u4<|aj a4<|aj s4<|aj z4<|aj n4<|aj u25<|aj a25<|aj s25<|aj z25<|aj q25<|n25
open Tryz in
def Tryz.FFs656:=aj a1<|aj s1<|aj z1<|aj n1<|aj u2<|aj a2<|aj s2<|aj z2<|aj i2<|aj u3<|aj a3<|aj s3<|aj z3<|aj i3<|aj u4<|aj a4<|aj s4<|aj z4<|aj n4<|aj u25<|aj a25<|aj s25<|aj z25<|aj q25<|aj n25<|aj u26<|aj a26<|aj s26<|aj z26<|aj q26<|aj n26<|aj a28<|aj s28<|aj z28<|aj i28<|aj n28<|aj p28<|aj ff28<|aj d28<|aj u29<|aj a29<|aj s29<|aj z29<|aj q29<|aj i29<|aj n29<|aj u38<|aj a38<|aj s38<|aj z38<|aj q38<|aj n38<|aj a49<|aj s49<|aj z49<|aj i49<|aj n49<|aj p49<|aj ff49<|aj d49<|aj u190<|aj a190<|aj s190<|aj z190<|aj q190<|aj n190<|aj a192<|aj s192<|aj z192<|aj i192<|aj n192<|aj p192<|aj ff192<|d192
open Tryz in
def Tryz.FFs667:=aj a1<|aj s1<|aj z1<|aj n1<|aj u3<|aj a3<|aj s3<|aj z3<|aj i3<|aj u4<|aj a4<|aj s4<|aj z4<|aj n4<|aj a28<|aj s28<|aj z28<|aj i28<|aj n28<|aj p28<|aj ff28<|aj d28<|aj u29<|aj a29<|aj s29<|aj z29<|aj q29<|aj i29<|aj n29<|aj u190<|aj a190<|aj s190<|aj z190<|aj q190<|aj n190<|aj a192<|aj s192<|aj z192<|aj i192<|aj n192<|aj p192<|aj ff192<|d192
open Tryz in
def Tryz.FFs627:=aj a1<|aj s1<|aj z1<|aj n1<|aj u2<|aj a2<|aj s2<|aj z2<|aj i2<|aj u3<|aj a3<|aj s3<|aj z3<|aj i3<|aj u4<|aj a4<|aj s4<|aj z4<|aj n4<|aj u5<|aj a5<|aj s5<|aj z5<|aj i5<|aj u6<|aj a6<|aj s6<|aj z6<|aj i6<|aj a7<|aj s7<|aj z7<|aj i7<|aj n7<|aj p7<|aj ff7<|aj d7<|aj a8<|aj s8<|aj z8<|aj i8<|aj n8<|aj p8<|aj ff8<|aj d8<|aj u25<|aj a25<|aj s25<|aj z25<|aj q25<|aj n25<|aj a28<|aj s28<|aj z28<|aj i28<|aj n28<|aj p28<|aj ff28<|aj d28<|aj u29<|aj a29<|aj s29<|aj z29<|aj q29<|aj i29<|aj n29<|aj u38<|aj a38<|aj s38<|aj z38<|aj q38<|aj n38<|aj u43<|aj a43<|aj s43<|aj z43<|aj q43<|aj n43<|aj u52<|aj a52<|aj s52<|aj z52<|aj q52<|aj n52<|aj a54<|aj s54<|aj z54<|aj i54<|aj n54<|aj p54<|aj ff54<|aj d54<|aj u55<|aj a55<|aj s55<|aj z55<|aj i55<|aj a59<|aj s59<|aj z59<|aj i59<|aj n59<|aj p59<|aj ff59<|aj d59<|aj a124<|aj s124<|aj z124<|aj n124<|aj u127<|aj a127<|aj s127<|aj z127<|aj q127<|aj i127<|aj n127<|aj a164<|aj s164<|aj z164<|aj i164<|aj n164<|aj p164<|aj ff164<|aj d164<|aj u190<|aj a190<|aj s190<|aj z190<|aj q190<|aj n190<|aj a192<|aj s192<|aj z192<|aj i192<|aj n192<|aj p192<|aj ff192<|aj d192<|aj u198<|aj a198<|aj s198<|aj z198<|aj q198<|aj i198<|aj n198<|aj a200<|aj s200<|aj z200<|aj n200<|aj a202<|aj s202<|aj z202<|aj i202<|aj n202<|aj p202<|aj ff202<|d202
def alF(als:List Bool)(a:Nat):Bool:=als.isEmpty||als.getD a false
def piF(pis:List Int)(v:Nat):Int:=if pis=[]then 0 else max (-72057594037927936) (pis.getD v 0)
theorem piF_lo(pis:List Int)(v:Nat): -(FAR:Int)<=piF pis v:=by
 have:=iP
 unfold piF
 split<;>omega
theorem al_ok{hq:Hp}{ba n:Nat}{vAl:Value}{als:List Bool}(l2:hq.load ba 2 1=some [vAl])(sl:aE hq 1 encB vAl als)(hl:als=[]\/als.length=n):AlF xc hq 131 ba n (alF als):=by
 intro h g a ha
 have S:=Si g.ok
 have q2:=g.load l2
 have sl2:=sl.gr g
 rcases hl with rfl|hl
 . refine ac (n:=15) (rs:=[.tmp 3]) rfl Tryz.e131 rfl rfl rfl (lbt rfl) ?_
   simp only [BS,LB,ae,Nat.reduceLT,Nat.reduceEqDiff,xm,Tryz.FFs6131,q2,sl2.lenq]
   exact⟨rfl,S.gr⟩
 . have c0: ¬((als.length:Int)=0):=by omega
   have ha':a<als.length:=by omega
   obtain⟨c,o,hidx,hld⟩:=sl2.ix (kd:=.i64) encB_len ha'
   have e:alF als a=als[a]:=by
    unfold alF
    cases als with
    |nil=>simp at ha'
    | cons b l=>
      show(false||(b::l).getD a false)=_
      rw [xg,xh ha'];rfl
   rw [e]
   refine ac (n:=15) (rs:=[.tmp 3]) rfl Tryz.e131 rfl rfl rfl (lbt rfl) ?_
   simp only [BS,LB,ae,Nat.reduceLT,Nat.reduceEqDiff,Tryz.FFs6131,q2,sl2.lenq,c0,hidx,hld,encB]
   exact S.gr
theorem pi_ok{hq:Hp}{ba n:Nat}{vPi:Value}{pis:List Int}(l2:hq.load ba 3 1=some [vPi])(sl:aE hq 1 (encI .i64) vPi pis)(hl:pis=[]\/pis.length=n):PiF xc hq 132 ba n (piF pis):=by
 intro h g a ha
 have S:=Si g.ok
 have q2:=g.load l2
 have sl2:=sl.gr g
 rcases hl with rfl|hl
 . refine ac (n:=14) (rs:=[.tmp 3]) rfl Tryz.e132 rfl rfl rfl (lbt rfl) ?_
   simp only [BS,LB,ae,Nat.reduceLT,Nat.reduceEqDiff,xm,Tryz.FFs6132,q2,sl2.lenq]
   exact⟨rfl,S.gr⟩
 . have c0: ¬((pis.length:Int)=0):=by omega
   have ha':a<pis.length:=by omega
   obtain⟨c,o,hidx,hld⟩:=sl2.ix (kd:=.i64) (cu .i64) ha'
   have e:piF pis a=max (-72057594037927936) pis[a]:=by
    unfold piF
    rw [if_neg (by intro e;subst e;simp at ha')]
    simp [xg,ha']
   rw [e]
   refine ac (n:=14) (rs:=[.tmp 3]) rfl Tryz.e132 rfl rfl rfl (lbt rfl) ?_
   simp only [BS,LB,ae,Nat.reduceLT,Nat.reduceEqDiff,Tryz.FFs6132,q2,sl2.lenq,c0,hidx,hld,encI]
   exact S.gr
theorem sstart_ok{h0:Hp}(ok:h0.t.Sized h0.n){γ:Gra}(hγ:Good γ){nb bp:Nat}(hn:aY h0 nb (ptrTo bp) γ){s to:Int}{vAl vPi:Value}(fA:Fl vAl)(fP:Fl vPi):
 Ret xc 71 [ptrTo bp,.agg ⟨[.int .i64 s,.int .i64 to,vAl,vPi]⟩] h0 fun r h'=> ∃br ba hq B,r=ptrTo br/\Gr h0 hq/\Gr hq h'/\hq.load ba 2 1=some [vAl]/\hq.load ba 3 1=some [vPi]/\eo h' B br (ptrTo bp) (.func (.func 131) #[] #[ptrTo ba]) (.func (.func 132) #[] #[ptrTo ba]) γ.nodes zS/\ ∀c∈B,hq.n<=c:=by
 have n1:=hγ.n1
 have n2:=hγ.n2
 have S:=Si ok
 refine ac (n:=34) (rs:=[.tmp 4]) rfl Tryz.e71 rfl rfl rfl (lbt rfl) ?_
 simp only [BS,Nat.reduceLT]
 refine ag (bR (by intro x e;cases e)) S ?_;clear S;intro h ba S n_ba;simp only [ah]at S
 have gq:=S.gr
 have l2:=S.ld (b:=ba) (o:=2) m0 rfl
 have l3:=S.ld (b:=ba) (o:=3) m0 rfl
 clear S
 rename Hp=>hq
 replace hn:=hn.gr gq
 have S:=Si gq.ok
 simp only [BS]
 refine aA (aI rfl) (q:=2880) (ps:=[]) (by kernel_rfl) ?_
 simp only [BS,LB,cls,Nat.reduceLT,Nat.reduceEqDiff,Nat.reduceAdd,Nat.reducePow,Nat.reduceDiv,Nat.reduceMod,Nat.reduceLeDiff]
 refine dL (cE S.ok (hn.gr S.gr)) ?_;intro h g;replace S:=S.call g;clear g
 simp only [BS,LB,cls,Nat.reduceLT,Nat.reduceEqDiff,Nat.reduceAdd,Nat.reducePow,Nat.reduceDiv,Nat.reduceMod,Nat.reduceLeDiff]
 refine dc (qU S.ok) ?_;rintro rp h ⟨g,F,H,hF⟩
 have k0:=S.fr.n
 replace S:=S.call g;clear g
 have pp: ∃b,rp=ptrTo b:=by obtain⟨b,_,_,e,_⟩:=H.ex;exact⟨b,e⟩
 obtain⟨ph,rfl⟩:=pp
 have S0:=S
 have lF:=H.lt S0.ok
 rename Hp=>h_H
 replace S:=S.base
 simp only [BS,LB,cls,Nat.reduceLT,Nat.reduceEqDiff,Nat.reduceAdd,Nat.reducePow,Nat.reduceDiv,Nat.reduceMod,Nat.reduceLeDiff]
 refine dL (cE S.ok (hn.gr (S0.rebase S).gr)) ?_;intro h g;replace S:=S.call g;clear g
 simp only [BS,LB,cls,Nat.reduceLT,Nat.reduceEqDiff,Nat.reduceAdd,Nat.reducePow,Nat.reduceDiv,Nat.reduceMod,Nat.reduceLeDiff]
 refine dT (iw (by exact yo) (by exact Tryz.e2E) (by omega) (by omega)) S ?_;clear S;intro h bl S n_bl e_bl
 simp only [BS,LB,cls,Nat.reduceLT,Nat.reduceEqDiff,Nat.reduceAdd,Nat.reducePow,Nat.reduceDiv,Nat.reduceMod,Nat.reduceLeDiff,xj]
 refine rL (cE (h0:={h with lo:=h.n}) S.ok ((hn.gr (S0.rebase S).gr).keep S.ok (fun _ _=>rfl))) ?_;intro h g;replace S:=S.call g;clear g
 simp only [BS,LB,cls,Nat.reduceLT,Nat.reduceEqDiff,Nat.reduceAdd,Nat.reducePow,Nat.reduceDiv,Nat.reduceMod,Nat.reduceLeDiff]
 refine dT (iw (by exact Tryz.u43) (by exact Tryz.e4E) (by omega) (by omega)) S ?_;clear S;intro h bk S n_bk e_bk
 simp only [BS,LB,cls,Nat.reduceLT,Nat.reduceEqDiff,Nat.reduceAdd,Nat.reducePow,Nat.reduceDiv,Nat.reduceMod,Nat.reduceLeDiff,Tryz.FFs671,xj]
 refine dT (bR (by intro x e;cases e)) S ?_;clear S;intro h br S n_br e_br;simp only [ah]at S
 simp only [BS,LB,cls,Nat.reduceLT,Nat.reduceEqDiff,Nat.reduceAdd,Nat.reducePow,Nat.reduceDiv,Nat.reduceMod,Nat.reduceLeDiff]
 refine ag (bW (by exact xH) (by exact xV) (by decide) (by rfl)) S ?_;clear S;intro h bs S n_bs;simp only [LC,aP,bj,ah,Nat.reduceMul,Nat.reduceAdd,xF,xE,xt,xS]at S
 simp only [BS,LB,Nat.reduceLT,Nat.reduceEqDiff]
 refine aq (cE S.ok (hn.gr (S0.rebase S).gr)) ?_;intro h g;replace S:=S.call g;clear g
 simp only [BS,LB,Nat.reduceLT,Nat.reduceEqDiff]
 have kl:=fun {c} (hc:c∈_)=>S.key_lt (b:=c) hc
 have kn:=S.fr.n
 refine step_ret (repI_ok S.ok (x:= -1) (.inr ⟨bs,0,none,1,rfl,xR _,S.lds (b:=bs) (o:=0) (n:=1*1) m0 (lbt rfl)⟩) n1 (by omega)) ?_;intro v h ⟨g,bb,eb,nb',Rb⟩;replace S:=S.call g;clear g
 subst eb
 replace S:=S.drop1
 replace S:=S.push (b:=bb) (o:=.row _ 1) (.inl (xe kn nb')) Rb (fun hm=>by have:=kl (xA _ hm);omega)
 simp only [BS,LB,Nat.reduceLT,Nat.reduceEqDiff,Tryz.FFs671]
 refine az (aB S (i:=1) rfl ?_ ?_ ?_ ono) ?_
 . exact(by simp only [Tryz.FFs671])
 . exact(by exact cy)
 . exact xo (lbt rfl)
 clear S;rintro h ⟨S,mo⟩;clear mo;simp only [LC,ah,lay,xu,xw,Nat.reduceAdd]at S
 simp only [BS,LB,Nat.reduceLT,Nat.reduceEqDiff,Tryz.FFs671]
 refine az (aB S (i:=1) rfl ?_ ?_ ?_ ono) ?_
 . exact(by simp only [Tryz.FFs671])
 . exact(by exact iG)
 . exact xo (lbt rfl)
 clear S;rintro h ⟨S,mo⟩;clear mo;simp only [LC,ah,lay,xu,xw,Nat.reduceAdd]at S
 simp only [BS,LB,Nat.reduceLT,Nat.reduceEqDiff,Tryz.FFs671]
 refine az (aB S (i:=1) rfl ?_ ?_ ?_ ono) ?_
 . exact(by simp only [Tryz.FFs671])
 . exact(by exact iG)
 . exact xo (lbt rfl)
 clear S;rintro h ⟨S,mo⟩;clear mo;simp only [LC,ah,lay,xu,xw,Nat.reduceAdd]at S
 simp only [BS,LB,ae,Nat.reduceLT,Nat.reduceEqDiff]
 have e1:aP [Value.int .i64 0] ((γ.nodes:Int)).toNat=labC γ.nodes zS.L:=by rw [mI];rfl
 have e2:aP [Value.bool false] ((γ.nodes:Int)).toNat=clC γ.nodes zS.O:=by
  rw [mI];unfold clC zS
  exact yG fun v _=>by simp
 have e3:xd γ.nodes (Value.int .i64 (-1))=byC γ.nodes zS.P:=by
  show _=(xq γ.nodes).map fun _=>Value.int .i64 (-1)
  rw [List.map_const',List.length_range]
 rw [e1,e2,e3]at S
 have ap:=S.apart
 have kl:=fun {c} hc=>S.key_own (b:=c) hc
 have n0:=S0.fr.n
 have hK: ∀c∈keys (srL br bl bb bk γ.nodes (ptrTo bp) (ptrTo ph) (.func (.func 131) #[] #[ptrTo ba]) (.func (.func 132) #[] #[ptrTo ba]) (.slice none 0 0) zS) (srG (.slice none 0 0) zS),h_H.n<=c:=fun c hc=>by
  have:c=bb\/c=br\/c=bk\/c=bl:=by simp [srL,srG,keys,dw]at hc;omega
  rcases kl (c:=c) (by simp [keys];omega)with h|h
  . exact h
  . simp [keys]at h
 refine⟨br,ba,hq,_,rfl,gq,(S0.rebase S).gr,l2,l3,⟨bl,bb,bk,ph,F,.slice none 0 0,rfl,fun q hq=>?_,.inl ⟨rfl,rfl⟩,?_,H.mo S.fr (fun c _ h=>by simp [keys]at h),fun c hc hm=>?_⟩,fun c hc=>?_⟩
 . simp only [srL,yC,yq,or_false]at hq
   rcases hq with rfl|rfl|rfl|rfl
   . exact S.row m1
   . exact S.row m3
   . exact S.row m0
   . exact S.row m2
 . simp [srL,srG,keys,dw]at ap⊢
   exact⟨by omega,by omega,by omega,.nil⟩
 . have:=lF c hc
   have:=hK c hm
   omega
 . rcases List.mem_append.1 hc with hc|hc
   . exact xe n0 (hK c hc)
   . exact xe k0 (hF c hc)
theorem fitsB_ok{h0:Hp}(ok:h0.t.Sized h0.n){v:Value}{xs:List Bool}(hv:aE h0 1 encB v xs){n:Nat}(hl:xs=[]\/xs.length=n):bA xc 69 [v,.int .i64 n] h0 (.bool true):=by
 have S:=Si ok
 by_cases c0:(xs.length:Int)=0
 . refine ac (n:=14) (rs:=[.tmp 4]) rfl Tryz.e69 rfl rfl rfl (lbt rfl) ?_
   simp only [BS,LB,ae,Nat.reduceLT,Nat.reduceEqDiff,Tryz.FFs669,hv.lenq,c0]
   exact S.gr
 . have c1:(xs.length:Int)=(n:Int):=by
    rcases hl with rfl|h
    . simp at c0
    . omega
   rw [c1]at c0
   refine ac (n:=14) (rs:=[.tmp 4]) rfl Tryz.e69 rfl rfl rfl (lbt rfl) ?_
   simp only [BS,LB,ae,Nat.reduceLT,Nat.reduceEqDiff,Tryz.FFs669,hv.lenq,c0,c1]
   exact S.gr
theorem fitsI_ok{h0:Hp}(ok:h0.t.Sized h0.n){v:Value}{xs:List Int}(hv:aE h0 1 (encI .i64) v xs){n:Nat}(hl:xs=[]\/xs.length=n):bA xc 70 [v,.int .i64 n] h0 (.bool true):=by
 have S:=Si ok
 by_cases c0:(xs.length:Int)=0
 . refine ac (n:=14) (rs:=[.tmp 4]) rfl Tryz.e70 rfl rfl rfl (lbt rfl) ?_
   simp only [BS,LB,ae,Nat.reduceLT,Nat.reduceEqDiff,Tryz.FFs670,hv.lenq,c0]
   exact S.gr
 . have c1:(xs.length:Int)=(n:Int):=by
    rcases hl with rfl|h
    . simp at c0
    . omega
   rw [c1]at c0
   refine ac (n:=14) (rs:=[.tmp 4]) rfl Tryz.e70 rfl rfl rfl (lbt rfl) ?_
   simp only [BS,LB,ae,Nat.reduceLT,Nat.reduceEqDiff,Tryz.FFs670,hv.lenq,c0,c1]
   exact S.gr
theorem kX{h0:Hp}(ok:h0.t.Sized h0.n){p:Value}{γ:Gra}{nb:Nat}(c:aY h0 nb p γ):bA xc 56 [p] h0 (.int .i64 γ.arcs.length):=by
 have S:=Si ok
 obtain⟨b,vx,vy,va,vo,vi,rfl,r,ga,_⟩:=c.ex
 have l0:=r.load1 (o:=3) rfl
 refine ac (n:=11) (rs:=[.tmp 2]) rfl Tryz.e56 rfl rfl rfl (lbt rfl) ?_
 simp only [BS,LB,ae,Nat.reduceLT,Nat.reduceEqDiff,Tryz.FFs656,l0,ga.A.lenq]
 exact S.gr
theorem qK{h0:Hp}(ok:h0.t.Sized h0.n){bp b2:Nat}{γ:Gra}{nb:Nat}(c:aY h0 nb (ptrTo bp) γ)(l:h0.load b2 0 1=some [ptrTo bp]){v:Nat}(hv:v<γ.nodes):bA xc 67 [.int .i64 (v:Nat),ptrTo b2] h0 (.bool true):=by
 have S:=Si ok
 have c1:(0:Int)<=(v:Int):=by omega
 refine ac (n:=12) (rs:=[.tmp 3]) rfl Tryz.e67 rfl rfl rfl (lbt rfl) ?_
 simp only [BS,LB,Nat.reduceLT,Nat.reduceEqDiff,Tryz.FFs667,l,c1]
 refine aq (cE S.ok (c.gr S.gr)) ?_;intro h g;replace S:=S.call g;clear g
 simp only [BS,LB,ae,Nat.reduceLT,Nat.reduceEqDiff,aG,hv]
 exact S.gr
theorem wW{h0:Hp}(ok:h0.t.Sized h0.n){γ:Gra}(hγ:Good γ){nb bp:Nat}(hn:aY h0 nb (ptrTo bp) γ){s to:Nat}(hs:s<γ.nodes)(hto:to<γ.nodes){vAl vPi:Value}{als:List Bool}{pis:List Int}(hA:aE h0 1 encB vAl als)(hAl:als=[]\/als.length=γ.arcs.length)(hP:aE h0 1 (encI .i64) vPi pis)(hPl:pis=[]\/pis.length=γ.nodes):
 Ret xc 27 [ptrTo bp,.agg ⟨[.int .i64 (s:Nat),.int .i64 (to:Nat),vAl,vPi]⟩] h0 fun r h'=>Gr h0 h'/\ ∃v fd,r=.tuple #[v,.int .i64 0]/\FdAt h' h0.n v fd/\((s=to/\fd=⟨0,[],[]⟩)\/(s≠to/\Ends γ.arcs (alF als) (piF pis) to (fK (piF pis) s) fd)):=by
 have S:=Si ok
 have fA:=hA.fl
 have fP:=hP.fl
 refine ac (n:=57) (rs:=[.cell 4 54,.tmp 5]) rfl Tryz.e27 rfl rfl rfl (lbt rfl) ?_
 simp only [BS,Nat.reduceLT]
 refine ag (cG (by exact dR)) S ?_;clear S;intro h b2 S n_b2
 simp only [BS,Nat.reduceLT,Nat.reduceEqDiff,if_false]
 refine ag (bR (by intro x e;cases e)) S ?_;clear S;intro h b3 S n_b3;simp only [ah]at S
 simp only [BS,Tryz.FFs627]
 refine ag ax S ?_;clear S;intro h b4 S n_b4
 simp only [BS,LB,Nat.reduceLT,Nat.reduceEqDiff,Tryz.FFs627,S.ld (b:=b2) (o:=0) m2 rfl]
 refine aA (aI rfl) (q:=0) (ps:=[(22,24),(14,16)]) (by kernel_rfl) ?_
 simp only [BS,LB,cls,Nat.reduceLT,Nat.reduceEqDiff,Nat.reduceAdd,Nat.reducePow,Nat.reduceDiv,Nat.reduceMod,Nat.reduceLeDiff,Tryz.FFs627,S.ld (b:=b2) (o:=0) m2 rfl,S.ld (b:=b3) (o:=0) m1 rfl]
 have p1:=(S.row (b:=b2) m2).lt S.ok
 have q1:=(S.row (b:=b3) m1).lt S.ok
 refine dL (qK S.ok (hn.gr S.gr) (S.ld (b:=b2) (o:=0) m2 rfl) hs) ?_;intro h g;have u1:=aF g p1;have v1:=aF g q1;replace S:=S.call g;clear g
 simp only [BS,LB,cls,Nat.reduceLT,Nat.reduceEqDiff,Nat.reduceAdd,Nat.reducePow,Nat.reduceDiv,Nat.reduceMod,Nat.reduceLeDiff,Tryz.FFs627,S.ld (b:=b2) (o:=0) m2 rfl,S.ld (b:=b3) (o:=1) m1 rfl]
 have p2:=(S.row (b:=b2) m2).lt S.ok
 have q2:=(S.row (b:=b3) m1).lt S.ok
 refine dL (qK S.ok (hn.gr S.gr) (S.ld (b:=b2) (o:=0) m2 rfl) hto) ?_;intro h g;have u2:=aF g p2;have v2:=aF g q2;replace S:=S.call g;clear g
 simp only [BS,LB,cls,Nat.reduceLT,Nat.reduceEqDiff,Nat.reduceAdd,Nat.reducePow,Nat.reduceDiv,Nat.reduceMod,Nat.reduceLeDiff,Tryz.FFs627,S.ld (b:=b2) (o:=0) m2 rfl,S.ld (b:=b3) (o:=2) m1 rfl]
 have p3:=(S.row (b:=b2) m2).lt S.ok
 have q3:=(S.row (b:=b3) m1).lt S.ok
 refine dL (kX S.ok (hn.gr S.gr)) ?_;intro h g;have u3:=aF g p3;have v3:=aF g q3;replace S:=S.call g;clear g
 simp only [BS,LB,cls,Nat.reduceLT,Nat.reduceEqDiff,Nat.reduceAdd,Nat.reducePow,Nat.reduceDiv,Nat.reduceMod,Nat.reduceLeDiff]
 have p4:=(S.row (b:=b2) m2).lt S.ok
 have q4:=(S.row (b:=b3) m1).lt S.ok
 refine dL (fitsB_ok S.ok (hA.gr S.gr) hAl) ?_;intro h g;have u4:=aF g p4;have v4:=aF g q4;replace S:=S.call g;clear g
 simp only [BS,LB,cls,Nat.reduceLT,Nat.reduceEqDiff,Nat.reduceAdd,Nat.reducePow,Nat.reduceDiv,Nat.reduceMod,Nat.reduceLeDiff,Tryz.FFs627,S.ld (b:=b2) (o:=0) m2 rfl,S.ld (b:=b3) (o:=3) m1 rfl]
 have p5:=(S.row (b:=b2) m2).lt S.ok
 have q5:=(S.row (b:=b3) m1).lt S.ok
 refine dL (cE S.ok (hn.gr S.gr)) ?_;intro h g;have u5:=aF g p5;have v5:=aF g q5;replace S:=S.call g;clear g
 simp only [BS,LB,cls,Nat.reduceLT,Nat.reduceEqDiff,Nat.reduceAdd,Nat.reducePow,Nat.reduceDiv,Nat.reduceMod,Nat.reduceLeDiff]
 have p6:=(S.row (b:=b2) m2).lt S.ok
 have q6:=(S.row (b:=b3) m1).lt S.ok
 refine dL (fitsI_ok S.ok (hP.gr S.gr) hPl) ?_;intro h g;have u6:=aF g p6;have v6:=aF g q6;replace S:=S.call g;clear g
 simp only [BS,LB,cls,Nat.reduceLT,Nat.reduceEqDiff,Nat.reduceAdd,Nat.reducePow,Nat.reduceDiv,Nat.reduceMod,Nat.reduceLeDiff,Tryz.FFs627]
 refine⟨by simp only [bH,bJ,aZ,bM,bn,ne_eq,not_false_eq_true,bT,cC,bE,bu,cg,dm,aU,Nat.reduceLT,Nat.reduceEqDiff,reduceIte,xx,ab,aR v3,aR v5],?_⟩
 clear p1 p2 p3 p4 p5 p6 q1 q2 q3 q4 q5 q6 u1 u2 u3 u4 u5 u6 v1 v2 v3 v4 v5 v6
 by_cases hst:s=to
 . subst hst
   simp only [BS,LB,Nat.reduceLT,Nat.reduceEqDiff,Tryz.FFs627,S.ld (b:=b3) (o:=0) m1 rfl,S.ld (b:=b3) (o:=1) m1 rfl]
   refine az (S.store (i:=0) rfl xW (by intro x e;cases e) rfl rfl (lbt rfl) ono) ?_
   clear S;rintro h3 ⟨S,mo⟩
   simp only [LC,ah,lay,xu,xw,Nat.reduceAdd]at S
   simp only [BS,ae]
   refine(gH (by decide) (by simp only [aU,ab,Nat.reduceEqDiff,reduceIte];exact dH yK xW (S.lds (b:=b4) (o:=0) (n:=3) m0 (lbt rfl)))).2 ?_
   refine(iH (by decide)).2 (fj.2 ?_)
   exact⟨S.gr,_,⟨0,[],[]⟩,rfl,⟨_,_,rfl,.inl ⟨rfl,rfl⟩,.inl ⟨rfl,rfl⟩,fun c hc=>hc.elim,fun c hc=>hc.elim⟩,.inl rfl⟩
 . have hst': ¬((s:Int)=(to:Int)):=by omega
   simp only [BS,LB,Nat.reduceLT,Nat.reduceEqDiff,Tryz.FFs627,hst',S.ld (b:=b3) (o:=0) m1 rfl,S.ld (b:=b3) (o:=1) m1 rfl]
   refine aA (aI rfl) (q:=0) (ps:=[(2,6),(2,4)]) (by kernel_rfl) ?_
   simp only [BS,LB,cls,Nat.reduceLT,Nat.reduceEqDiff,Nat.reduceAdd,Nat.reducePow,Nat.reduceDiv,Nat.reduceMod,Nat.reduceLeDiff,Tryz.FFs627,xB,xI,yy,S.ld (b:=b2) (o:=0) m2 rfl,S.lds (b:=b3) (o:=0) (n:=4) m1 (lbt rfl)]
   have hnS:=hn.gr S.gr
   have kS:=S.fr.n
   have p3:=(S.row (b:=b3) m1).lt S.ok
   refine dc (sstart_ok S.ok hγ hnS fA fP) ?_
   rintro r h5 ⟨br,ba,hq,B,rfl,g1,g2,l2,l3,R,hB⟩
   have u1:=aF (g1.trans g2) p3
   have Aq:=hA.gr (S.gr.trans g1)
   have Pq:=hP.gr (S.gr.trans g1)
   have Sq:=S.call g1
   have b4q:=(Sq.row (b:=b4) m0).lt Sq.ok
   replace S:=S.call (g1.trans g2)
   simp only [BS,LB,cls,Nat.reduceLT,Nat.reduceEqDiff,Nat.reduceAdd,Nat.reducePow,Nat.reduceDiv,Nat.reduceMod,Nat.reduceLeDiff,Tryz.FFs627,S.ld (b:=b3) (o:=0) m1 rfl,S.ld (b:=b3) (o:=1) m1 rfl]
   have kq:=g1.n
   have hnq:=hnS.gr g1
   refine dc (srun_ok g1.ok g2 hγ hnq R hB (al_ok l2 Aq hAl) (pi_ok l3 Pq hPl) (fun v _=>piF_lo pis v) hs hto) ?_
   rintro rv h6 ⟨g6,fd,he,vA,vE,rfl,G1,G2,d1,d2⟩
   replace S:=Sq.call g6
   have f1:Fl vA:=G1.fl
   have f2:Fl vE:=G2.fl
   simp only [BS,LB,cls,Nat.reduceLT,Nat.reduceEqDiff,Nat.reduceAdd,Nat.reducePow,Nat.reduceDiv,Nat.reduceMod,Nat.reduceLeDiff]
   refine dV (S.store (i:=0) rfl xW (by intro x e;cases e) rfl (by simp only [ah,xU,yb,f1.2.1,f2.2.1,xx];rfl) (lbt rfl) ono) ?_
   clear S;rintro h7 ⟨S,mo⟩
   simp only [LC,ah,lay,xu,xw,Nat.reduceAdd]at S
   simp only [BS,LB,cls,ae,Nat.reduceEqDiff,Nat.reduceAdd,Nat.reducePow,Nat.reduceDiv,Nat.reduceMod,Nat.reduceLeDiff]
   refine⟨by simp only [bH,bJ,aZ,bM,bn,ne_eq,not_false_eq_true,bT,cC,bE,bu,cg,dm,aU,Nat.reduceLT,Nat.reduceEqDiff,reduceIte,xx,ab,bw u1],?_⟩
   refine(gH (by decide) (by simp only [aU,ab,Nat.reduceEqDiff,reduceIte];exact dH yK xW (S.lds (b:=b4) (o:=0) (n:=3) m0 (lbt rfl)))).2 ?_
   refine(iH (by decide)).2 (fj.2 ?_)
   have keep: ∀{p:GL},ew h6 p->(∀c,au p.1 c->hq.n<=c)->ew h7 p:=fun {p} G hc=>G.of_get fun c hk=>mo.get c (G.lt g6.ok hk) fun e=>by
    have:=hc c (by
     rcases G with⟨e1,_⟩|⟨b',n',e1,_⟩
     . obtain⟨v,k,vs⟩:=p
       simp only []at e1
       subst e1
       cases hk
     . obtain⟨v,k,vs⟩:=p
       simp only []at e1
       subst e1
       cases hk
       rfl)
    omega
   exact⟨S.gr,_,fd,rfl,⟨vA,vE,rfl,keep G1 (fun c hc=>(d1 c hc).1),keep G2 d2,fun c hc=>⟨xe kS (xe kq (d1 c hc).1),(d1 c hc).2⟩,fun c hc=>xe kS (xe kq (d2 c hc))⟩,.inr ⟨hst,he⟩⟩
open Tryz in
def Tryz.FFt1419:=aj a1<|aj s1<|aj z1<|aj n1<|aj u2<|aj a2<|aj s2<|aj z2<|aj i2<|aj u3<|aj a3<|aj s3<|aj z3<|aj i3<|aj u4<|aj a4<|aj s4<|aj z4<|aj n4<|aj u30<|aj a30<|aj s30<|aj z30<|aj q30<|aj i30<|aj n30<|aj u38<|aj a38<|aj s38<|aj z38<|aj q38<|aj n38<|aj a117<|aj s117<|aj z117<|aj i117<|aj n117<|aj p117<|aj ff117<|d117
open Tryz in
def Tryz.FFt1417:=aj a1<|aj s1<|aj z1<|aj n1<|aj u2<|aj a2<|aj s2<|aj z2<|aj i2<|aj u3<|aj a3<|aj s3<|aj z3<|aj i3<|aj u4<|aj a4<|aj s4<|aj z4<|aj n4<|aj u30<|aj a30<|aj s30<|aj z30<|aj q30<|aj i30<|aj n30<|aj u38<|aj a38<|aj s38<|aj z38<|aj q38<|aj n38<|aj a117<|aj s117<|aj z117<|aj i117<|aj n117<|aj p117<|aj ff117<|d117
open Tryz in
def Tryz.FFt1416:=aj a1<|aj s1<|aj z1<|aj n1<|aj u2<|aj a2<|aj s2<|aj z2<|aj i2<|aj u3<|aj a3<|aj s3<|aj z3<|aj i3<|aj u4<|aj a4<|aj s4<|aj z4<|aj n4<|aj u5<|aj a5<|aj s5<|aj z5<|aj i5<|aj u22<|aj a22<|aj s22<|aj z22<|aj q22<|aj n22<|aj u34<|aj a34<|aj s34<|aj z34<|aj q34<|aj i34<|aj n34<|aj a115<|aj s115<|aj z115<|aj i115<|aj n115<|aj p115<|aj ff115<|d115
open Tryz in
def Tryz.FFt1418:=aj a1<|aj s1<|aj z1<|aj n1<|aj u2<|aj a2<|aj s2<|aj z2<|aj i2<|aj u3<|aj a3<|aj s3<|aj z3<|aj i3<|aj u4<|aj a4<|aj s4<|aj z4<|aj n4<|aj u5<|aj a5<|aj s5<|aj z5<|aj i5<|aj u22<|aj a22<|aj s22<|aj z22<|aj q22<|aj n22<|aj u34<|aj a34<|aj s34<|aj z34<|aj q34<|aj i34<|aj n34<|aj a115<|aj s115<|aj z115<|aj i115<|aj n115<|aj p115<|aj ff115<|d115
open Tryz in
def Tryz.FFt1454:=aj a1<|aj s1<|aj z1<|aj n1<|aj u3<|aj a3<|aj s3<|aj z3<|aj i3<|aj u4<|aj a4<|aj s4<|aj z4<|aj n4<|aj a28<|aj s28<|aj z28<|aj i28<|aj n28<|aj p28<|aj ff28<|aj d28<|aj u29<|aj a29<|aj s29<|aj z29<|aj q29<|aj i29<|aj n29<|aj u30<|aj a30<|aj s30<|aj z30<|aj q30<|aj i30<|aj n30<|aj u38<|aj a38<|aj s38<|aj z38<|aj q38<|aj n38<|aj a117<|aj s117<|aj z117<|aj i117<|aj n117<|aj p117<|aj ff117<|aj d117<|aj u190<|aj a190<|aj s190<|aj z190<|aj q190<|aj n190<|aj a192<|aj s192<|aj z192<|aj i192<|aj n192<|aj p192<|aj ff192<|d192
def jZ(h:Hp)(p:Value)(m:List Int)(n:Int):Prop:=(p=.pointer none/\m=[]/\n=0)\/((∃k,hU h k p m)/\n=eB m+1)
theorem jZ.gr{h h':Hp}{p:Value}{m:List Int}{n:Int}(g:Gr h h')(c:jZ h p m n):jZ h' p m n:=c.imp (fun h=>h) (fun⟨⟨k,h⟩,e⟩=>⟨⟨k,h.gr g⟩,e⟩)
theorem map_ok{h0:Hp}(ok:h0.t.Sized h0.n){p:Value}{m:List Int}{n:Int}(c:jZ h0 p m n)(hl:m.length<1000000):Ret xc 19 [p] h0 fun r h'=>Gr h0 h'/\aE h' 1 (encI .i64) r m:=by
 have S:=Si ok
 rcases c with⟨rfl,rfl,rfl⟩|⟨⟨_,b,v,rfl,r,s,_,_⟩,rfl⟩
 . refine ac (n:=10) (rs:=[.tmp 2]) rfl Tryz.e19 rfl rfl rfl (lbt rfl) ?_
   simp only [BS,LB,ae,Nat.reduceLT,Nat.reduceEqDiff,Tryz.FFt1419]
   exact⟨S.gr,.inl ⟨rfl,rfl⟩⟩
 . have l0:=r.load1 (o:=0) rfl
   refine ac (n:=10) (rs:=[.tmp 2]) rfl Tryz.e19 rfl rfl rfl (lbt rfl) ?_
   simp only [BS,LB,Nat.reduceLT,Nat.reduceEqDiff,Tryz.FFt1419,l0]
   refine step_ret (ke S.ok (cu .i64) s hl) ?_;intro v h ⟨g,sl,_⟩;replace S:=S.call g;clear g
   simp only [BS,LB,ae,Nat.reduceLT,Nat.reduceEqDiff]
   exact⟨S.gr,sl⟩
theorem many_ok{h0:Hp}(ok:h0.t.Sized h0.n){p:Value}{m:List Int}{n:Int}(c:jZ h0 p m n):bA xc 17 [p] h0 (.int .i64 n):=by
 have S:=Si ok
 rcases c with⟨rfl,rfl,rfl⟩|⟨⟨_,b,v,rfl,r,s,_,_⟩,rfl⟩
 . refine ac (n:=9) (rs:=[.tmp 2]) rfl Tryz.e17 rfl rfl rfl (lbt rfl) ?_
   simp only [BS,LB,ae,Nat.reduceLT,Nat.reduceEqDiff,Tryz.FFt1417]
   exact S.gr
 . have l0:=r.load1 (o:=1) rfl
   refine ac (n:=9) (rs:=[.tmp 2]) rfl Tryz.e17 rfl rfl rfl (lbt rfl) ?_
   simp only [BS,LB,ae,Nat.reduceLT,Nat.reduceEqDiff,Tryz.FFt1417,l0]
   exact S.gr
def mM(h:Hp)(p:Value)(a w:Int)(nn:Bool):Prop:=(p=.pointer none/\a=0/\w=0/\nn=false)\/ ∃b x y,p=ptrTo b/\Row h b [.int .i64 a,.int .i64 w,x,y] 1/\nn=true
theorem mM.gr{h h':Hp}{p:Value}{a w:Int}{nn:Bool}(g:Gr h h')(c:mM h p a w nn):mM h' p a w nn:=c.imp (fun h=>h) (fun⟨b,x,y,e,r,n⟩=>⟨b,x,y,e,r.gr g,n⟩)
theorem pF{h0:Hp}(ok:h0.t.Sized h0.n){p:Value}{a w:Int}{nn:Bool}(c:mM h0 p a w nn):bA xc 16 [p] h0 (.int .i64 a):=by
 have S:=Si ok
 rcases c with⟨rfl,rfl,rfl,rfl⟩|⟨b,x,y,rfl,r,rfl⟩
 . refine ac (n:=9) (rs:=[.tmp 2]) rfl Tryz.e16 rfl rfl rfl (lbt rfl) ?_
   simp only [BS,LB,ae,Nat.reduceLT,Nat.reduceEqDiff,Tryz.FFt1416]
   exact S.gr
 . have l0:=r.load1 (o:=0) rfl
   refine ac (n:=9) (rs:=[.tmp 2]) rfl Tryz.e16 rfl rfl rfl (lbt rfl) ?_
   simp only [BS,LB,ae,Nat.reduceLT,Nat.reduceEqDiff,Tryz.FFt1416,l0]
   exact S.gr
theorem mG{h0:Hp}(ok:h0.t.Sized h0.n){p:Value}{a w:Int}{nn:Bool}(c:mM h0 p a w nn):bA xc 18 [p] h0 (.int .i64 w):=by
 have S:=Si ok
 rcases c with⟨rfl,rfl,rfl,rfl⟩|⟨b,x,y,rfl,r,rfl⟩
 . refine ac (n:=9) (rs:=[.tmp 2]) rfl Tryz.e18 rfl rfl rfl (lbt rfl) ?_
   simp only [BS,LB,ae,Nat.reduceLT,Nat.reduceEqDiff,Tryz.FFt1418]
   exact S.gr
 . have l0:=r.load1 (o:=1) rfl
   refine ac (n:=9) (rs:=[.tmp 2]) rfl Tryz.e18 rfl rfl rfl (lbt rfl) ?_
   simp only [BS,LB,ae,Nat.reduceLT,Nat.reduceEqDiff,Tryz.FFt1418,l0]
   exact S.gr
theorem cfits_ok{h0:Hp}(ok:h0.t.Sized h0.n){p q:Value}{γ:Gra}{m:List Int}{n:Int}{nb:Nat}(c:aY h0 nb p γ)(d:jZ h0 q m n)(h1:1<=γ.nodes)(hl:m.length<1000000):bA xc 54 [p,q] h0 (.bool (decide (m.length=γ.nodes))):=by
 have S:=Si ok
 have hpos:(0:Int)<(γ.nodes:Int):=by omega
 have hpos':(γ.nodes:Int)>0:=hpos
 refine ac (n:=16) (rs:=[.tmp 4]) rfl Tryz.e54 rfl rfl rfl (lbt rfl) ?_
 simp only [BS,LB,Nat.reduceLT,Nat.reduceEqDiff]
 refine aq (cE S.ok c) ?_;intro h g;replace S:=S.call g;replace c:=c.gr g;replace d:=d.gr g;clear g
 simp only [BS,LB,Nat.reduceLT,Nat.reduceEqDiff,hpos]
 refine step_ret (map_ok S.ok d hl) ?_;intro v h ⟨g,sl⟩;replace S:=S.call g;replace c:=c.gr g;replace d:=d.gr g;clear g
 simp only [BS,LB,Nat.reduceLT,Nat.reduceEqDiff,Tryz.FFt1454,sl.lenq]
 refine aq (cE S.ok c) ?_;intro h g;replace S:=S.call g;replace c:=c.gr g;replace d:=d.gr g;clear g
 simp only [BS,LB,ae,Nat.reduceLT,Nat.reduceEqDiff]
 refine⟨?_,S.gr⟩
 congr 1
 by_cases h:m.length=γ.nodes
 . simp [h]
 . have: ¬((m.length:Int)=(γ.nodes:Int)):=by omega
   simp [h,this]
end Go.Ab
end
section
namespace Go.Ab
def SlW(h:Hp)(kd:IntKind)(v:Value)(xs:List Int):Prop:=(v=.slice none 0 0/\xs=[])\/ ∃b o c,v=.slice (some ⟨b,o,none⟩) xs.length c/\xs.length<=c/\h.load b o (xs.length*1)=some (xs.flatMap (encI kd))
theorem SlW.sl{h:Hp}{kd:IntKind}{v:Value}{xs:List Int}(s:SlW h kd v xs):aE h 1 (encI kd) v xs:=s.imp (fun h=>h) (fun⟨b,o,c,h1,h2,h3⟩=>⟨b,o,none,c,h1,h2,h3⟩)
theorem SlW.low{E:Env}{h:Hp}{kd kd':IntKind}{t e:TypeId}{v:Value}{xs:List Int}(hu:E.und t=some (.slice e))(hs:E.sz e=some 1)(s:SlW h kd v xs){n:Nat}(hn:n<=xs.length):
 ∃v',eA E t v none (some (.int kd' (n:Int))) none=some v'/\aE h 1 (encI kd) v' (xs.take n)/\ ∀c,au v' c->au v c:=by
 have nat: ∀n:Nat,fg (n:Int)=some n:=fun n=>rfl
 rcases s with⟨rfl,rfl⟩|⟨b,o,c,rfl,h2,h3⟩
 . have:n=0:=by simpa using hn
   subst this
   refine⟨.slice none 0 0,?_,.inl ⟨rfl,rfl⟩,fun c hc=>hc⟩
   simp only [eA,hu,dX,dS,nat,hs]
   rfl
 . refine⟨.slice (some ⟨b,o,none⟩) n c,?_,.inr ⟨b,o,none,c,?_,?_,?_⟩,fun c hc=>hc⟩
   . simp only [eA,hu,dX,dS,nat,xK (xe hn h2),cond_true,hs,xN,cond_false,Nat.sub_zero,dK,xF,yH]
     by_cases hc:c=0
     . subst hc;rfl
     . rw [show Nat.beq c 0=false by cases c with|zero=>exact absurd rfl hc|succ c=>rfl];rfl
   . rw [xG,yu hn]
   . rw [xG,yu hn];exact xe hn h2
   . rw [xG,yu hn]
     have:=jU h3 (i:=0) (m:=n*1) (by omega)
     rw [yH,xB]at this
     rw [this]
     congr 1
     refine xy fun i=>?_
     have e4: ∀l:List Int,l.flatMap (encI kd)=l.map fun x=>.int kd x:=fun l=>by
      rw [xk,xM,xk];rfl
     rw [e4,e4,xt,List.map_take]
end Go.Ab

end
section
namespace Go.Ab
open Go.Proofs
set_option maxRecDepth 10000
open Tryz in
def Tryz.FFt1512:=aj a1<|aj s1<|aj z1<|aj n1<|aj u2<|aj a2<|aj s2<|aj z2<|aj i2<|aj u3<|aj a3<|aj s3<|aj z3<|aj i3<|aj u4<|aj a4<|aj s4<|aj z4<|aj n4<|aj u5<|aj a5<|aj s5<|aj z5<|aj i5<|aj u6<|aj a6<|aj s6<|aj z6<|aj i6<|aj a7<|aj s7<|aj z7<|aj i7<|aj n7<|aj p7<|aj ff7<|aj d7<|aj a8<|aj s8<|aj z8<|aj i8<|aj n8<|aj p8<|aj ff8<|aj d8<|aj u9<|aj a9<|aj s9<|aj z9<|aj n9<|aj u10<|aj a10<|aj s10<|aj z10<|aj n10<|aj u11<|aj a11<|aj s11<|aj z11<|aj n11<|aj u12<|aj a12<|aj s12<|aj z12<|aj i12<|aj u22<|aj a22<|aj s22<|aj z22<|aj q22<|aj n22<|aj a24<|aj s24<|aj z24<|aj i24<|aj n24<|aj p24<|aj ff24<|aj d24<|aj u25<|aj a25<|aj s25<|aj z25<|aj q25<|aj n25<|aj u26<|aj a26<|aj s26<|aj z26<|aj q26<|aj n26<|aj a28<|aj s28<|aj z28<|aj i28<|aj n28<|aj p28<|aj ff28<|aj d28<|aj u29<|aj a29<|aj s29<|aj z29<|aj q29<|aj i29<|aj n29<|aj u30<|aj a30<|aj s30<|aj z30<|aj q30<|aj i30<|aj n30<|aj u38<|aj a38<|aj s38<|aj z38<|aj q38<|aj n38<|aj a49<|aj s49<|aj z49<|aj i49<|aj n49<|aj p49<|aj ff49<|aj d49<|aj u71<|aj a71<|aj s71<|aj z71<|aj q71<|aj i71<|aj n71<|aj a73<|aj s73<|aj z73<|aj i73<|aj n73<|aj p73<|aj ff73<|aj d73<|aj a76<|aj s76<|aj z76<|aj q76<|aj n76<|aj a117<|aj s117<|aj z117<|aj i117<|aj n117<|aj p117<|aj ff117<|aj d117<|aj u190<|aj a190<|aj s190<|aj z190<|aj q190<|aj n190<|aj a192<|aj s192<|aj z192<|aj i192<|aj n192<|aj p192<|aj ff192<|d192
def iL(k:Nat):List Int:=(xq k).map fun(i:Nat)=>(i:Int)
theorem qj(k:Nat):(iL k).length=k:=by simp [iL]
theorem oP(k:Nat):iL (k+1)=iL k++[(k:Int)]:=by simp [iL,yv]
theorem pos_app(l:List Int)(x y:Int):pos (l++[y]) x=match pos l x with|some i=>some i|none=>if x=y then some l.length else none:=by
 induction l with
 |nil=>simp [pos]
 | cons z zs ih=>
   rw [List.cons_append,pos,pos]
   by_cases h:x=z
   . rw [if_pos h,if_pos h]
   . rw [if_neg h,if_neg h,ih]
     cases pos zs x with
     |some i=>rfl
     |none=>by_cases h2:x=y<;>simp [h2]
theorem pS(k j:Nat):pos (iL k) (j:Int)=if j<k then some j else none:=by
 induction k with
 |zero=>rfl
 | succ k ih=>
   rw [oP,pos_app,ih,qj]
   by_cases h:j<k
   . rw [if_pos h,if_pos (show j<k+1 by omega)]
   . rw [if_neg h]
     by_cases h2:j=k
     . subst h2;simp
     . have: ¬((j:Int)=(k:Int)):=by omega
       simp only [this,if_false];rw [if_neg (by omega)]
theorem pos_lt{l:List Int}{x:Int}{i:Nat}(h:pos l x=some i):i<l.length:=by
 induction l generalizing i with
 |nil=>cases h
 | cons y ys ih=>
   rw [pos]at h
   by_cases e:x=y
   . rw [if_pos e]at h;cases h;simp
   . rw [if_neg e]at h
     cases hp:pos ys x with
     |none=>rw [hp]at h;cases h
     |some j=>rw [hp]at h;cases h;have:=ih hp;simp;omega
theorem norm_iota(k n:Nat):norm (iL k) ((yI k n).map fun(i:Nat)=>(i:Int))=(yI k n).map fun(i:Nat)=>(i:Int):=by
 induction n generalizing k with
 |zero=>rfl
 | succ n ih=>
   rw [List.range'_succ,yD,norm]
   unfold kj ku
   rw [pS,if_neg (by omega)]
   simp only []
   rw [qj,<-oP,ih]
theorem norm_idem(ks l:List Int):norm (iL ks.length) (norm ks l)=norm ks l:=by
 induction l generalizing ks with
 |nil=>rfl
 | cons x xs ih=>
   rw [norm,norm]
   unfold kj ku
   cases hp:pos ks x with
   | some i=>
     simp only []
     rw [pS,if_pos (pos_lt hp)]
     simp only []
     rw [ih]
   | none=>
     simp only []
     rw [pS,if_neg (by omega)]
     simp only []
     rw [qj,<-oP]
     have:=ih (ks++[x])
     rw [yh,xX]at this
     rw [this]
theorem norm_bd(ks l:List Int): ∀x∈norm ks l,0<=x/\x<=((ks.length+l.length:Nat):Int):=by
 induction l generalizing ks with
 |nil=>intro x hx;cases hx
 | cons y ys ih=>
   intro x hx
   rw [norm]at hx
   rcases List.mem_cons.1 hx with rfl|hx
   . have:kj ks y<=ks.length:=by
      unfold kj
      cases hp:pos ks y with
      |some i=>exact yn (pos_lt hp)
      |none=>exact xR _
     simp;omega
   . have h1:=ih _ x hx
     have:(ku ks y).length<=ks.length+1:=by
      unfold ku
      cases pos ks y<;>simp
     simp at h1⊢;omega
theorem fold_bd(K:Int)(l:List Int)(a:Int)(ha:0<=a/\a<=K)(h: ∀x∈l,0<=x/\x<=K):0<=l.foldl max a/\l.foldl max a<=K:=by
 induction l generalizing a with
 |nil=>exact ha
 | cons x xs ih=>
   have hx:=h x (by simp)
   exact ih (max a x) (by omega) (fun y hy=>h y (by simp [hy]))
theorem rx{K:Int}(hK:0<=K){l:List Int}(h: ∀x∈l,0<=x/\x<=K):0<=eB l/\eB l<=K:=by
 cases l with
 |nil=>exact⟨Int.le_refl _,hK⟩
 |cons x xs=>exact fold_bd K xs x (h x (by simp)) (fun y hy=>h y (by simp [hy]))
theorem aE.blt{α:Type}{h:Hp}{k:Nat}{enc:α->List Value}{v:Value}{xs:List α}(ok:h.t.Sized h.n)(s:aE h k enc v xs){c:Nat}(hc:au v c):c<h.n:=by
 rcases s with⟨rfl,_⟩|⟨b,o,_,_,rfl,_,h3⟩
 . exact hc.elim
 . have:b=c:=hc
   subst this
   cases hg:h.get b with
   |none=>simp [Hp.load,hg]at h3
   |some x=>exact eJ ok hg
def cellOf(O:List Int)(i:Nat):Int:=if O.length=0 then(i:Int)else(O.getD (i%O.length) 0).tmod 4
theorem graph_ok {h0:Hp} (ok:h0.t.Sized h0.n) {vB vO:Value} {B O:List Int} (hB:SlW h0 .u8 vB B) (hO:SlW h0 .u8 vO O) (cO: ∀x∈O,0<=x/\x<=255):
 Ret xc 12 [.agg ⟨[vB,vO]⟩] h0 fun r h'=>Gr h0 h'/\ ∃γ vx vy va p q m,r=.tuple #[iq γ vx vy va,p,q]/\Good γ/\(∃k,aY h' k p γ)/\(∃k,hU h' k q m)/\m.length=γ.nodes/\cM h' vx vy va γ/\(0<=eB m/\eB m<=99)/\(∀x∈m,0<=x)/\(O.length=0->m=iL γ.nodes):=by
 have S:=Si ok
 have fB:=hB.sl.fl
 have fO:=hO.sl.fl
 have mn:min (B.length:Int) 60=((min B.length 60:Nat):Int):=by omega
 obtain⟨vB',hsl,sB,bB⟩:=hB.low (kd':=.i64) (n:=min B.length 60) Tryz.u22 Tryz.s5 (Nat.min_le_left _ _)
 have fB':=sB.fl
 refine ac (n:=59) (rs:=[.cell 2 28,.tmp 3,.tmp 4]) rfl Tryz.e12 rfl rfl rfl (lbt rfl) ?_
 simp only [BS,Nat.reduceLT]
 refine ag (bR (by intro x e;cases e)) S ?_;clear S;intro h b1 S n_b1;simp only [ah]at S
 simp only [BS,Tryz.FFt1512]
 refine ag ax S ?_;clear S;intro h b2 S n_b2
 simp only [BS,LB,Nat.reduceLT,Nat.reduceEqDiff,Nat.reduceAdd,ya,yr,Tryz.FFt1512,hB.sl.lenq,mn,hsl,fB',S.ld (b:=b1) (o:=0) m1 rfl]
 refine ag (bR (by intro x e;cases e)) S ?_;clear S;intro h bd S n_bd;simp only [ah]at S
 have hB':aE h 1 (encI .u8) vB' (B.take (min B.length 60)):=sB.gr S.gr
 have nB: ¬au vB' bd:=fun hc=>by have:=sB.blt ok hc;omega
 have lb':(B.take (min B.length 60)).length<1000000:=by rw [xG];omega
 simp only [BS,LB,Nat.reduceLT,Nat.reduceEqDiff]
 have hR1:Row h b1 [vB,vO] 1:=S.row m2
 have hR2:Row h b2 [.int .i64 0,.slice none 0 0,.slice none 0 0,.slice none 0 0] 1:=S.row m1
 have ap:=S.apart
 have g0:=S.drop1.gr
 have e12:b1≠b2/\b1≠bd/\b2≠bd:=by
  simp only [keys,yD,List.map_nil,List.filterMap_nil,yt,List.nodup_cons,yC,yq,or_false,not_or]at ap
  exact⟨fun e=>ap.2.1 e.symm,fun e=>ap.1.2 e.symm,fun e=>ap.1.1 e.symm⟩
 have b2n:=hR2.lt S.ok
 have b1n:=hR1.lt S.ok
 have f0:=S.fr
 refine step_ret (raw_ok S.ok (S.row m0) ⟨hB',nB,lb',by omega⟩) ?_
 rintro v h ⟨f,γ,vx,vy,va,rfl,hγ,ga,hz⟩
 clear S
 have f1:Mo NoM h0 h:=f0.trans f (fun b e=>by subst e;exact .inr n_bd)
 replace hR1:Row h b1 [vB,vO] 1:=f.has (o:=.row _ 1) hR1 e12.2.1
 replace hR2:Row h b2 [.int .i64 0,.slice none 0 0,.slice none 0 0,.slice none 0 0] 1:=f.has (o:=.row _ 1) hR2 e12.2.2
 have hzb: ∀c,au vx c\/au vy c\/au va c-> ¬c=b2:=fun c hc e=>by have:=hz c hc;omega
 have S:=St.init1 f1.ok (o:=.row _ 1) hR2
 have fx:=ga.X.fl
 have fy:=ga.Y.fl
 have fa:=ga.A.fl
 have n2:=hγ.n2
 simp only [BS,Tryz.FFt1512,iq]
 refine ag ax S ?_;clear S;intro h b6 S n_b6
 simp only [BS,LB,Nat.reduceLT,Nat.reduceEqDiff]
 refine az (S.store (i:=0) rfl Tryz.s28 (by intro x e;cases e) rfl (by simp only [ah,xU,yb,fx.2.1,fy.2.1,fa.2.1,xx];rfl) (lbt rfl) ono) ?_
 clear S;rintro h ⟨S,_⟩
 simp only [LC,ah,lay,xu,xw,Nat.reduceAdd]at S
 simp only [BS,LB,Nat.reduceLT,Nat.reduceEqDiff,Tryz.FFt1512,xB,xI,yy,S.lds (b:=b6) (o:=0) (n:=4) m0 (lbt rfl)]
 have nn:=S.fr.n
 have q6:=(S.row (b:=b6) m0).lt S.ok
 have q2:=(S.row (b:=b2) m1).lt S.ok
 have c2: ∀c,c∈[b6,b2]->c<h.n:=by
  intro c e
  rcases(show c=b6\/c=b2 by simpa using e)with h|h
  . subst h;exact q6
  . subst h;exact q2
 refine step_ret (netNew_ok S.ok hγ (ga.mo S.fr hzb)) ?_
 intro v hN ⟨p,ep,g,hp⟩
 replace S:=S.call g
 clear g
 subst ep
 have fp:Fl p:=by obtain⟨_,_,_,_,_,_,rfl,_⟩:=hp.ex;exact dR
 have gS:=S.fr
 have gaN:=ga.mo gS hzb
 have gab: ∀c,au vx c\/au vy c\/au va c->c<b6:=by
  intro c hc
  refine yi ?_ n_b6
  rcases hc with h|h|h
  . exact ga.X.blt f1.ok h
  . exact ga.Y.blt f1.ok h
  . exact ga.A.blt f1.ok h
 have hN1:Row hN b1 [vB,vO] 1:=gS.has (o:=.row _ 1) hR1 e12.1
 have hN2:=(hO.sl.gr f1.gr).mo gS (fun c hc e=>by have:=hO.sl.blt ok hc;omega)
 have hNO: ∀c,au vO c->c<h0.n:=fun c hc=>hO.sl.blt ok hc
 have hb6:h0.n<=b6:=xe f1.n n_b6
 have hb16: ¬b1=b6:=by have:=f.n;omega
 replace S:=S.base
 simp only [LC,keys,yD,List.map_nil,List.filterMap_nil]at S
 have o1:=hN1.load1 (o:=1) rfl
 have no1: ¬b1∈[b6,b2]:=by simp [hb16,e12.1]
 have no2: ∀c,au vO c-> ¬c∈[b6,b2]:=fun c hc h=>by
  have:=hNO c hc
  simp only [yC,yq,or_false]at h
  omega
 simp only [BS,LB,Nat.reduceLT,Nat.reduceEqDiff]
 replace S:=S.nilG (k:=1)
 refine aV (fun(i:Nat) ρ h=>i<=γ.nodes/\ ∃vR,St (· ∈[b6,b2]) hN h [(b6,.row [.int .i64 γ.nodes,vx,vy,va] 1),(b2,.row [.int .i64 0,.slice none 0 0,.slice none 0 0,.slice none 0 0] 1)] [(vR,1,ints ((xq i).map (cellOf O)))]/\
  ρ 1=ptrTo b1/\ρ 2=ptrTo b2/\ρ 6=ptrTo b6/\ρ 7=p/\ρ 9=vR/\ρ 10=.int .i64 i) (fun i=>γ.nodes-i) ?_ 0 _ _ ?_
 . clear S
   intro i ih ρ h ⟨hi,vR,S,r1,r2,r6,r7,r9,r10⟩
   have l1:=S.old o1 no1
   have w:ao .i64 ((i:Int)+1)=((i+1:Nat):Int):=by rw [wrap64]<;>omega
   by_cases hlt:i<γ.nodes
   . by_cases hz0:O.length=0
     . have c0: ¬(0:Int)<(O.length:Int):=by omega
       simp only [BS,LB,Nat.reduceLT,Nat.reduceEqDiff,Tryz.FFt1512,r1,r6,r9,r10,aG,hlt,l1,hO.sl.lenq,c0,S.ld (b:=b6) (o:=0) m0 rfl]
       refine ag (bW (by exact xH) (by exact xV) (by decide) (by rfl)) S ?_;clear S;intro h bs S n_bs;simp only [LC,aP,bj,ah,Nat.reduceMul,Nat.reduceAdd,xF,xE,xt,xS]at S
       simp only [BS,LB,Nat.reduceLT,Nat.reduceEqDiff]
       refine e6 (S.grow (j:=0) (m:=1) (new:=ints [(i:Int)]) rfl xH xV (by decide) Tryz.n38 (by simp only [aO];rw [S.lds (b:=bs) (o:=0) (n:=1*1) m0 (lbt rfl)];rfl) rfl (by decide) rfl (by rw [cN,cN];simp;omega)) ?_
       clear S
       rintro h vX' S
       simp only [LC]at S
       replace S:=S.drop1
       rw [<-lN]at S
       simp only [BS,LB,Nat.reduceLT,Nat.reduceEqDiff,r10,w]
       refine ih (i+1) _ _ (by omega) ⟨by omega,vX',?_,by simp [aa,r1,ab],by simp [aa,r2,ab],by simp [aa,r6,ab],by simp [aa,r7],by simp [aa],by simp [aa]⟩
       rw [yv,List.map_append,List.map_singleton,show cellOf O i=(i:Int)from by unfold cellOf;rw [if_pos hz0]]
       exact S
     . have c0:(0:Int)<(O.length:Int):=by omega
       have hmod:i%O.length<O.length:=Nat.mod_lt _ (by omega)
       have tm:(i:Int).tmod (O.length:Int)=((i%O.length:Nat):Int):=by rw [yk (by omega)];exact(Int.natCast_emod _ _).symm
       obtain⟨c,o,hidx,hld⟩:=(hN2.mo S.fr no2).ix (kd:=.i64) (cu _) hmod
       have cz:(O.length:Int)≠0:=by omega
       have hx:=cO _ (xL hmod)
       have t4:(O[i%O.length]).tmod 4=O[i%O.length]%4:=yk hx.1
       have wc:ao .i64 ((O[i%O.length]).tmod 4)=(O[i%O.length]).tmod 4:=by rw [wrap64]<;>omega
       simp only [BS,LB,Nat.reduceLT,Nat.reduceEqDiff,Tryz.FFt1512,r1,r6,r10,aG,hlt,l1,hO.sl.lenq,c0,S.ld (b:=b6) (o:=0) m0 rfl]
       refine aA (aI rfl) (q:=0) (ps:=[]) (by kernel_rfl) ?_
       simp only [BS,LB,iV,bQ,iW,cls,Nat.reduceLT,Nat.reduceEqDiff,Nat.reduceAdd,Nat.reducePow,Nat.reduceDiv,Nat.reduceMod,Nat.reduceLeDiff,Tryz.FFt1512,r1,r9,r10,l1,hO.sl.lenq,m9 cz,tm,hidx,hld,encI,m9 (n:=4) (by decide),wc]
       refine ag (bW (by exact xH) (by exact xV) (by decide) (by rfl)) S ?_;clear S;intro h bs S n_bs;simp only [LC,aP,bj,ah,Nat.reduceMul,Nat.reduceAdd,xF,xE,xt,xS]at S
       simp only [BS,LB,Nat.reduceLT,Nat.reduceEqDiff]
       refine e6 (S.grow (j:=0) (m:=1) (new:=ints [(O[i%O.length]).tmod 4]) rfl xH xV (by decide) Tryz.n38 (by simp only [aO];rw [S.lds (b:=bs) (o:=0) (n:=1*1) m0 (lbt rfl)];rfl) rfl (by decide) rfl (by rw [cN,cN];simp;omega)) ?_
       clear S
       rintro h vX' S
       simp only [LC]at S
       replace S:=S.drop1
       rw [<-lN]at S
       simp only [BS,LB,Nat.reduceLT,Nat.reduceEqDiff,r10,w]
       refine ih (i+1) _ _ (by omega) ⟨by omega,vX',?_,by simp [aa,r1,ab],by simp [aa,r2,ab],by simp [aa,r6,ab],by simp [aa,r7],by simp [aa],by simp [aa]⟩
       rw [yv,List.map_append,List.map_singleton,show cellOf O i=(O[i%O.length]).tmod 4 from by unfold cellOf;rw [if_neg hz0];simp [xg,hmod]]
       exact S
   . have hiN:i=γ.nodes:=by omega
     simp only [BS,LB,Nat.reduceLT,Nat.reduceEqDiff,Tryz.FFt1512,r6,r10,aG,hlt,S.ld (b:=b6) (o:=0) m0 rfl]
     generalize hL:(xq i).map (cellOf O)=Ls at S
     have lL:Ls.length=γ.nodes:=by rw [<-hL];simp [hiN]
     have bL:=rx (K:=((0+Ls.length:Nat):Int)) (by omega) (norm_bd [] Ls)
     have nl:=ux [] Ls
     have n1:=hγ.n1
     have yes: ¬cellNo (norm [] Ls):=by
      rintro(h|h|h)
      . rw [h]at nl;simp at nl;omega
      . exact h (norm_idem [] Ls)
      . omega
     have sl:aE h 1 (encI .i64) vR Ls:=(S.gown _ m0).1.sl rfl (fun _=>rfl) (by decide)
     refine aA (aI rfl) (q:=0) (ps:=[(0,4),(0,3)]) (by kernel_rfl) ?_
     simp only [BS,LB,cls,Nat.reduceLT,Nat.reduceEqDiff,Nat.reduceAdd,Nat.reducePow,Nat.reduceDiv,Nat.reduceMod,Nat.reduceLeDiff,Tryz.FFt1512,r6,r7,r9,xB,xI,yy,S.lds (b:=b6) (o:=0) (n:=4) m0 (lbt rfl)]
     refine dc (norm_ok S.ok sl (by omega)) ?_
     rintro v1 h ⟨g1,s1,q1⟩
     have e1:=aF g1 ((S.row (b:=b6) m0).lt S.ok)
     replace S:=S.call g1
     simp only [BS,LB,cls,Nat.reduceLT,Nat.reduceEqDiff,Nat.reduceAdd,Nat.reducePow,Nat.reduceDiv,Nat.reduceMod,Nat.reduceLeDiff]
     have b2lt:=(S.row (b:=b2) m1).lt S.ok
     refine dc (qk S.ok s1 (by omega) (by omega)) ?_
     rintro v2 h ⟨g2,hc⟩
     have e2:=aF g2 ((S.row (b:=b6) m0).lt S.ok)
     replace S:=S.call g2
     have hc2:=(hc.resolve_left fun h=>yes h.1).2
     have fc:Fl v2:=by obtain⟨_,_,rfl,_⟩:=hc2;exact dR
     simp only [BS,LB,cls,Nat.reduceLT,Nat.reduceEqDiff,Nat.reduceAdd,Nat.reducePow,Nat.reduceDiv,Nat.reduceMod,Nat.reduceLeDiff,r2]
     refine dV (S.store (i:=1) rfl Tryz.s28 (by intro x e;cases e) rfl (by simp only [ah,xU,yb,fx.2.1,fy.2.1,fa.2.1,xx];rfl) (lbt rfl) ono) ?_
     clear S;rintro h ⟨S,mo⟩
     simp only [LC,ah,lay,xu,xw,Nat.reduceAdd]at S
     simp only [BS,LB,cls,ae,Nat.reduceLT,Nat.reduceEqDiff,Nat.reduceAdd,Nat.reducePow,Nat.reduceDiv,Nat.reduceMod,Nat.reduceLeDiff]
     refine⟨by simp only [bH,bJ,aZ,bM,bn,ne_eq,not_false_eq_true,bT,cC,bE,bu,cg,dm,aU,Nat.reduceLT,Nat.reduceEqDiff,reduceIte,xx,r2,r6,ab,aR e1,aR e2,bw e1,bw e2],?_⟩
     refine(gH (by decide) (by simp only [aU,r2,ab,Nat.reduceEqDiff,reduceIte];exact dH Tryz.a28 Tryz.s28 (S.lds (b:=b2) (o:=0) (n:=4) m1 (lbt rfl)))).2 ?_
     refine(iH (by decide)).2 ((iH (by decide)).2 (fj.2 ?_))
     have inb: ∀c,c∈[b6,b2]->c=b6\/c=b2:=fun c hc=>by simpa using hc
     have c1: ∀c,c∈[b6,b2]->NoM c\/h0.n<=c:=by
      intro c e
      rcases inb c e with h|h
      . subst h;exact .inr hb6
      . subst h;exact .inr n_b2
     have c3: ∀c,au vx c\/au vy c\/au va c-> ¬c∈[b6,b2]:=by
      intro c hc e
      rcases inb c e with h|h
      . have:=gab c hc;omega
      . exact hzb c hc h
     refine⟨((f1.trans gS (fun c e=>.inr (by subst e;exact n_b2))).trans S.fr c1).gr,γ,vx,vy,va,p,v2,norm [] Ls,?_,hγ,⟨_,hp.mo S.fr c2⟩,⟨_,hc2.mo mo (fun c e=>by subst e;exact b2lt)⟩,by rw [nl,lL],gaN.mo S.fr c3,⟨by omega,by omega⟩,fun x hx=>(norm_bd [] Ls x hx).1,fun hO0=>?_⟩
     . simp only [aU,Nat.reduceEqDiff,reduceIte];rfl
     . rw [<-hL,<-hiN,show(xq i).map (cellOf O)=(yI 0 i).map (fun(j:Nat)=>(j:Int))from by
        rw [yB]
        exact yG fun j _=>by unfold cellOf;rw [if_pos hO0]]
       have:=norm_iota 0 i
       rw [show iL 0=[]from rfl]at this
       rw [this,iL,yB]
 . exact⟨xJ _,_,S,by simp [aa,ab],by simp [aa,ab],by simp [aa,ab],by simp [aa],by simp [aa],by simp [aa]⟩
end Go.Ab
end
section
namespace Go.Ab
theorem oe{z:Nat}(h:z<256):ao .u8 (z:Int)=(z:Int):=by
 show ao .u8 (.ofNat z)=_
 unfold ao
 simp only [hf,sgn,pw]
 have:Nat.blt z 256=true:=by rw [Nat.blt_eq];exact h
 rw [this];rfl
section
variable{E:Env}{t:TypeId}{p q:Operand}{x y i:Nat}
theorem bits8(op:BinOp)(hx:x<256)(hy:y<256):iJ op .u8 (x:Int) (y:Int)=match op with
 | .and=>some (ao .u8 ((yL x y:Nat):Int))
 | .or=>some (ao .u8 ((Nat.lor x y:Nat):Int))
 | .xor=>some (ao .u8 ((Nat.xor x y:Nat):Int))
 | .andNot=>some (ao .u8 ((Nat.xor x (yL x y):Nat):Int))
 |_=>none:=by
 show iJ op .u8 (.ofNat x) (.ofNat y)=_
 have h1:Nat.blt x (pw .u8)=true:=by rw [Nat.blt_eq];exact hx
 have h2:Nat.blt y (pw .u8)=true:=by rw [Nat.blt_eq];exact hy
 unfold iJ
 simp only [h1,h2,Bool.and_self,cond_true]
 cases op<;>rfl
theorem b_and8(hx:x<256)(hy:y<256):aT E .and t p q (.int .u8 (x:Int)) (.int .u8 (y:Int))=some (.int .u8 ((x&&& y:Nat):Int)):=by
 show(bif ie .u8 .u8 then(iJ .and .u8 (x:Int) (y:Int)).map (Value.int .u8 ·)else none)=_
 rw [bits8 .and hx hy]
 simp only []
 rw [show yL x y=x&&& y from rfl,oe (xO yc hx)]
 rfl
theorem b_or8(hx:x<256)(hy:y<256):aT E .or t p q (.int .u8 (x:Int)) (.int .u8 (y:Int))=some (.int .u8 ((x|||y:Nat):Int)):=by
 show(bif ie .u8 .u8 then(iJ .or .u8 (x:Int) (y:Int)).map (Value.int .u8 ·)else none)=_
 rw [bits8 .or hx hy]
 simp only []
 rw [show Nat.lor x y=x|||y from rfl,oe (Nat.or_lt_two_pow (n:=8) hx hy)]
 rfl
theorem b_andNot8(hx:x<256)(hy:y<256):aT E .andNot t p q (.int .u8 (x:Int)) (.int .u8 (y:Int))=some (.int .u8 ((x ^^^(x&&& y):Nat):Int)):=by
 show(bif ie .u8 .u8 then(iJ .andNot .u8 (x:Int) (y:Int)).map (Value.int .u8 ·)else none)=_
 rw [bits8 .andNot hx hy]
 simp only []
 rw [show Nat.xor x (yL x y)=x ^^^(x&&& y)from rfl,oe (yj (n:=8) hx (xO yc hx))]
 rfl
theorem b_shl8{k:IntKind}(hi:i<8):aT E .shl t p q (.int .u8 1) (.int k (i:Int))=some (.int .u8 ((2 ^i:Nat):Int)):=by
 have:i=0\/i=1\/i=2\/i=3\/i=4\/i=5\/i=6\/i=7:=by omega
 rcases this with rfl|rfl|rfl|rfl|rfl|rfl|rfl|rfl<;>rfl
end
theorem pow8{i:Nat}(h:i<8):2 ^i<256:=Nat.pow_lt_pow_right (by decide) h
theorem and_pow{x i:Nat}:(x&&& 2 ^i=0)↔x.testBit i=false:=by
 constructor
 . intro h
   have:=congrArg (fun z=>z.testBit i) h
   simpa [yw,yf]using this
 . intro h
   refine Nat.eq_of_testBit_eq fun j=>?_
   rw [yw,yf,Nat.zero_testBit]
   by_cases e:i=j
   . subst e;rw [h];rfl
   . simp [e]
def setB(x i:Nat):Nat:=(x ^^^(x&&& 2 ^i))|||2 ^i
theorem setB_at(x i j:Nat):(setB x i).testBit j=if j=i then true else x.testBit j:=by
 unfold setB
 rw [Nat.testBit_or,Nat.testBit_xor,yw,yf]
 by_cases e:j=i
 . subst e;simp
 . have e': ¬i=j:=fun h=>e h.symm
   simp [e,e']
theorem setB_lt{x i:Nat}(hx:x<256)(hi:i<8):setB x i<256:=
 Nat.or_lt_two_pow (n:=8) (yj (n:=8) hx (xO yc hx)) (pow8 hi)
end Go.Ab

end
section
namespace Go.Ab
end Go.Ab

end
section
namespace Go.Ab
open Go.Proofs
set_option maxRecDepth 10000
def natM(l:List Nat):List Value:=l.map fun(x:Nat)=>.int .i64 x
theorem natM_eq(l:List Nat):l.flatMap cw=natM l:=by
 unfold natM;rw [xk,xM,xk];rfl
theorem th(l:List Nat):(natM l).length=l.length:=by simp [natM]
open Tryz in
def Tryz.FFfl155:=aj a1<|aj s1<|aj z1<|aj n1<|aj u2<|aj a2<|aj s2<|aj z2<|aj i2<|aj u3<|aj a3<|aj s3<|aj z3<|aj i3<|aj u4<|aj a4<|aj s4<|aj z4<|aj n4<|aj u5<|aj a5<|aj s5<|aj z5<|aj i5<|aj u6<|aj a6<|aj s6<|aj z6<|aj i6<|aj u22<|aj a22<|aj s22<|aj z22<|aj q22<|aj n22<|aj u34<|aj a34<|aj s34<|aj z34<|aj q34<|aj i34<|aj n34<|aj a115<|aj s115<|aj z115<|aj i115<|aj n115<|aj p115<|aj ff115<|d115
open Tryz in
def Tryz.FFfl164:=aj a1<|aj s1<|aj z1<|aj n1<|aj u4<|aj a4<|aj s4<|aj z4<|aj n4<|aj u5<|aj a5<|aj s5<|aj z5<|aj i5<|aj u121<|aj a121<|aj s121<|aj z121<|aj q121<|aj i121<|n121
open Tryz in
def Tryz.FFfl1124:=aj a1<|aj s1<|aj z1<|aj n1<|aj u2<|aj a2<|aj s2<|aj z2<|aj i2<|aj u3<|aj a3<|aj s3<|aj z3<|aj i3<|aj u4<|aj a4<|aj s4<|aj z4<|aj n4<|aj u5<|aj a5<|aj s5<|aj z5<|aj i5<|aj u121<|aj a121<|aj s121<|aj z121<|aj q121<|aj i121<|n121
def gD(n:Nat)(B:Nat->Nat):List Value:=(xq n).map fun j=>.int .u8 (B j:Nat)
theorem ul{n:Nat}{B:Nat->Nat}:(gD n B).length=n:=by simp [gD]
theorem rH{n j:Nat}{B:Nat->Nat}(h:j<n):(gD n B)[j]? =some (.int .u8 (B j:Nat)):=gZ (F:=fun j=>Value.int .u8 ((B j:Nat):Int)) h
theorem ui{n j x:Nat}{B:Nat->Nat}:(gD n B).set j (.int .u8 (x:Nat))=gD n (ck B j x):=by
 have:=gw (N:=n) (k:=j) (F:=fun j=>Value.int .u8 ((B j:Nat):Int)) (F':=fun u=>Value.int .u8 ((ck B j x u:Nat):Int)) (fun i _ hi=>by simp [ck,hi])
 unfold gD
 rw [<-this];simp [ck]
structure ia(h:Hp)(bp bb rows wide long:Nat)(B:Nat->Nat):Prop where
 r:Row h bp [.int .i64 rows,.int .i64 wide,.int .i64 long,.slice (some ⟨bb,0,none⟩) (rows*long) (rows*long)] 1
 b:Row h bb (gD (rows*long) B) 1
 lt: ∀j,B j<256
theorem ia.gr{h h':Hp}{bp bb rows wide long:Nat}{B:Nat->Nat}(m:ia h bp bb rows wide long B)(g:Gr h h'):ia h' bp bb rows wide long B:=⟨m.r.gr g,m.b.gr g,m.lt⟩
theorem ia.bits{h:Hp}{bp bb rows wide long:Nat}{B:Nat->Nat}(m:ia h bp bb rows wide long B):mM h (ptrTo bp) rows wide true:=.inr ⟨bp,_,_,rfl,m.r,rfl⟩
def fJ(B:Nat->Nat)(long r i:Nat):Bool:=(B (r*long+i/8)).testBit (i%8)
theorem bitB_set{B:Nat->Nat}{long r i r' i':Nat}(h1:i/8<long)(h2:i'/8<long):fJ (ck B (r*long+i/8) (setB (B (r*long+i/8)) (i%8))) long r' i'=if r'=r/\i'=i then true else fJ B long r' i':=by
 unfold fJ ck
 by_cases e:r'*long+i'/8=r*long+i/8
 . rw [if_pos e,setB_at]
   have er:r'=r:=by
    have a:(r'*long+i'/8)/long=(r*long+i/8)/long:=by rw [e]
    rw [Nat.mul_comm r',Nat.mul_comm r,Nat.mul_add_div (by omega),Nat.mul_add_div (by omega),Nat.div_eq_of_lt h1,Nat.div_eq_of_lt h2]at a
    omega
   subst er
   have e8:i'/8=i/8:=by omega
   rw [e]
   by_cases em:i'%8=i%8
   . rw [if_pos em,if_pos ⟨rfl,by omega⟩]
   . rw [if_neg em,if_neg (fun h=>em (by rw [h.2]))]
 . rw [if_neg e,if_neg (fun h=>e (by rw [h.1,h.2]))]
theorem bmNew_ok{h0:Hp}(ok:h0.t.Sized h0.n){a w:Nat}(ha:a<=100)(hw:w<=1000):Ret xc 55 [.int .i64 (a:Nat),.int .i64 (w:Nat)] h0 fun r h'=>Gr h0 h'/\ ∃bp bb,r=ptrTo bp/\h0.n<=bp/\h0.n<=bb/\bp≠bb/\ia h' bp bb a w ((w+7)/8) (fun _=>0):=by
 have S:=Si ok
 have f1: ¬((a:Int)<0):=by omega
 have f2: ¬((w:Int)<0):=by omega
 have f3: ¬((67108864:Int)<(w:Int)):=by omega
 have w1:ao .i64 ((w:Int)+8)=(w:Int)+8:=by rw [wrap64]<;>omega
 have w2:ao .i64 ((w:Int)+8-1)=((w+7:Nat):Int):=by rw [wrap64]<;>omega
 have hk:(w+7)/8<=126:=by omega
 have w3:ao .i64 ((((w+7:Nat):Int)).tdiv 8)=(((w+7)/8:Nat):Int):=by
  rw [yl (by omega),show(((w+7:Nat):Int)/8)=(((w+7)/8:Nat):Int) by omega,wrap64]<;>omega
 generalize hK:(w+7)/8=K at hk w3
 have hm:a*K<=100*126:=Nat.mul_le_mul ha hk
 have w5:ao .i64 ((a:Int)*(K:Int))=((a*K:Nat):Int):=by rw [<-Int.natCast_mul,wrap64]<;>omega
 have mk: ∀(n:Nat),aP [Value.int .u8 0] n=gD n (fun _=>0):=fun n=>by
  rw [jS]
  unfold gD
  rw [List.map_const',List.length_range]
  rfl
 by_cases k0:0<(K:Int)
 . have hd:(268435456:Int).tdiv (K:Int)=((268435456/K:Nat):Int):=by
    rw [yl (by decide)];rfl
   have h1:268435456/126<=268435456/K:=Nat.div_le_div_left hk (by omega)
   have h2:268435456/K<=268435456:=Nat.div_le_self _ _
   have h3:(268435456/126:Nat)=2130440:=rfl
   have w4:ao .i64 ((268435456:Int).tdiv (K:Int))=(268435456:Int).tdiv (K:Int):=by rw [hd,wrap64]<;>omega
   have f4: ¬((268435456:Int).tdiv (K:Int)<(a:Int)):=by omega
   have f5:(K:Int)≠0:=by omega
   refine ac (n:=37) (rs:=[.tmp 4]) rfl Tryz.e55 rfl rfl rfl (lbt rfl) ?_
   simp only [BS,LB,Nat.reduceLT,Nat.reduceEqDiff,f1,f2,f3,w1,w2,w3,w4,w5,k0,f4,kh (n:=8) (by decide),kh (n:=(K:Int)) f5]
   refine ag (iw (by exact Tryz.u22) (by exact Tryz.e5E) (by omega) (by omega)) S ?_;clear S;intro h bb S n_bb
   rw [xj,mk]at S
   simp only [BS,LB,Nat.reduceLT,Nat.reduceEqDiff,Nat.reduceAdd,Tryz.FFfl155,xj]
   refine ag (bR (by intro x e;cases e)) S ?_;clear S;intro h bp S n_bp;simp only [ah]at S
   simp only [BS,LB,ae,Nat.reduceLT,Nat.reduceEqDiff]
   have ap:=S.apart
   exact⟨S.gr,bp,bb,rfl,by have:=S.fr.n;omega,n_bb,fun e=>(by subst e;simp [keys]at ap),⟨S.row m0,S.row m1,fun _=>Nat.zero_lt_succ _⟩⟩
 . refine ac (n:=37) (rs:=[.tmp 4]) rfl Tryz.e55 rfl rfl rfl (lbt rfl) ?_
   simp only [BS,LB,Nat.reduceLT,Nat.reduceEqDiff,f1,f2,f3,w1,w2,w3,w5,k0,kh (n:=8) (by decide)]
   refine ag (iw (by exact Tryz.u22) (by exact Tryz.e5E) (by omega) (by omega)) S ?_;clear S;intro h bb S n_bb
   rw [xj,mk]at S
   simp only [BS,LB,Nat.reduceLT,Nat.reduceEqDiff,Nat.reduceAdd,Tryz.FFfl155,xj]
   refine ag (bR (by intro x e;cases e)) S ?_;clear S;intro h bp S n_bp;simp only [ah]at S
   simp only [BS,LB,ae,Nat.reduceLT,Nat.reduceEqDiff]
   have ap:=S.apart
   exact⟨S.gr,bp,bb,rfl,by have:=S.fr.n;omega,n_bb,fun e=>(by subst e;simp [keys]at ap),⟨S.row m0,S.row m1,fun _=>Nat.zero_lt_succ _⟩⟩
theorem get1_ok{h0:Hp}(ok:h0.t.Sized h0.n){bb j x i:Nat}(l:h0.load bb j 1=some [.int .u8 (x:Nat)])(hx:x<256)(hi:i<8):bA xc 64 [.pointer (some ⟨bb,j,none⟩),.int .u8 ((2 ^i:Nat):Int)] h0 (.bool (x.testBit i)):=by
 have S:=Si ok
 cases ht:x.testBit i with
 | true=>
   have k0: ¬(((x&&& 2 ^i:Nat)):Int)=0:=fun e=>by
    have:(x&&& 2 ^i)=0:=by omega
    rw [and_pow,ht]at this;cases this
   refine ac (n:=11) (rs:=[.tmp 4]) rfl Tryz.e64 rfl rfl rfl (lbt rfl) ?_
   simp only [BS,LB,ae,Nat.reduceLT,Nat.reduceEqDiff,Tryz.FFfl164,l,b_and8 hx (pow8 hi),k0]
   exact S.gr
 | false=>
   have k0:(((x&&& 2 ^i:Nat)):Int)=0:=by
    have:=and_pow.2 ht
    omega
   refine ac (n:=11) (rs:=[.tmp 4]) rfl Tryz.e64 rfl rfl rfl (lbt rfl) ?_
   simp only [BS,LB,ae,Nat.reduceLT,Nat.reduceEqDiff,Tryz.FFfl164,l,b_and8 hx (pow8 hi),k0]
   exact S.gr
theorem set1_ok{h0:Hp}(ok:h0.t.Sized h0.n){bb b7 j n i:Nat}{B:Nat->Nat}(R:Row h0 bb (gD n B) 1)(hj:j<n)(hB:B j<256)(hi:i<8)(l7:h0.load b7 0 1=some [.bool true])(hne:b7≠bb):
 Ret xc 124 [.pointer (some ⟨bb,j,none⟩),.int .u8 ((2 ^i:Nat):Int),ptrTo b7] h0 fun r h'=>Mo (· =bb) h0 h'/\r=.bool true/\Row h' bb (gD n (ck B j (setB (B j) i))) 1:=by
 have S:=St.init1 ok (o:=.row (gD n B) 1) R
 have lx:=S.ld (b:=bb) (o:=j) m0 (rH hj)
 have hx:=pow8 hi
 have hy:(B j ^^^(B j&&& 2 ^i))<256:=yj (n:=8) hB (xO yc hB)
 refine ac (n:=19) (rs:=[.tmp 5]) rfl Tryz.e124 rfl rfl rfl (lbt rfl) ?_
 simp only [BS,LB,Nat.reduceLT,Nat.reduceEqDiff,Tryz.FFfl1124,lx,b_andNot8 hB hx]
 refine az (aB S (i:=0) rfl Tryz.s5 bO (by rw [ul];exact hj) ono) ?_
 clear S lx;rintro h ⟨S,mo⟩
 simp only [LC]at S
 rw [ui]at S
 have ly:=S.ld (b:=bb) (o:=j) m0 (rH hj)
 have e1:ck B j (B j ^^^(B j&&& 2 ^i)) j=(B j ^^^(B j&&& 2 ^i)):=by simp [ck]
 rw [e1]at ly
 have l7':=S.old l7 hne
 simp only [BS,LB,Nat.reduceLT,Nat.reduceEqDiff,Tryz.FFfl1124,l7',ly,b_or8 hy hx]
 refine az (aB S (i:=0) rfl Tryz.s5 bO (by rw [ul];exact hj) ono) ?_
 clear S ly;rintro h ⟨S,mo⟩
 simp only [LC]at S
 rw [show(((B j ^^^(B j&&& 2 ^i))|||2 ^i:Nat):Int)=((setB (B j) i:Nat):Int)from rfl,ui]at S
 have e2:ck (ck B j (B j ^^^(B j&&& 2 ^i))) j (setB (B j) i)=ck B j (setB (B j) i):=by
  funext u;unfold ck;split<;>rfl
 rw [e2]at S
 simp only [BS,LB,ae,Nat.reduceLT,Nat.reduceEqDiff]
 exact⟨S.fr,S.row m0⟩
end Go.Ab
end

/- Nets, cells, flags: what the functions do (part 2). -/
import Derived.Test.YtfdopodkngggfaaGreatDoorNetA
open Go.Ab.Tryz renaming abEnv->zM,u182->Xf,e87E->Xk,u29->Xn,u33->Xo,u3->Xp,s87->Xr,e3E->Xs,u24->Xy,e2E->Xz,u303->XE,e310E->XK,n29->XO,s31->XP
open Nat renaming lt_of_succ_le->zN,zero_add->zR,mul_one->zT,zero_mul->zU,le_trans->zV,one_mul->zY,ble_eq_true_of_le->Xe,le_refl->Xt,zero_le->XN
open List renaming take->zO,drop->zP,range->zQ,getD_eq_getElem?_getD->zS,getElem?_eq_getElem->zW,getElem_mem->Xa,flatMap_append->Xb,append_nil->Xc,length_append->Xd,mem_of_getElem?->Xh,length_set->Xj,getElem?_map->Xl,take_succ_cons->Xq,mem_cons->Xv,map_cons->Xw,not_mem_nil->Xx,getElem?_cons_zero->XB,getElem?_cons_succ->XC,length_nil->XD,flatMap_eq_foldl->XF,drop_zero->XG,take_zero->XH,getElem?_append->XI,getElem?_range->XL,map_nil->XM
open Int renaming cast_ofNat_Int->zX,tmod_eq_emod_of_nonneg->Xi,toNat_natCast->Xm,ofNat_eq_natCast->XJ
open Bool renaming and_true->zZ
open Option renaming getD_some->Xg,isSome_none->Xu,getD_none->XA
set_option maxHeartbeats 4000000
set_option linter.defProp false
set_option linter.unusedVariables false
set_option linter.unusedSimpArgs false
section
namespace Go.Ab
open Go.Proofs
set_option maxRecDepth 10000
def Tryz.FFt4139:=aj Z1<|aj Z2<|aj Z0<|aj Z5<|aj Z13<|aj Z6<|aj Z15<|aj Z8<|Z38
def Tryz.FFt4141:=aj Z1<|aj Z2<|aj Z0<|aj Z5<|aj Z13<|aj Z6<|aj Z8<|Z38
def Tryz.FFt4145:=aj Z1<|aj Z2<|aj Z0<|aj Z5<|aj Z13<|aj Z6<|aj Z15<|aj Z8<|Z38
def Tryz.FFt4143:=aj Z1<|aj Z2<|aj Z0<|aj Z5<|aj Z13<|aj Z6<|aj Z8<|Z38
def Tryz.FFt4146:=aj Z1<|aj Z2<|aj Z0<|aj Z5<|aj Z13<|aj Z6<|aj Z8<|Z38
theorem look1_ok{h0:Hp}(ok:h0.t.Sized h0.n){γ:Gra}(hγ:Good γ){vx vy va:Value}{b:Nat}(hb:Row h0 b [.int .i64 γ.nodes,vx,vy,va] 1):Ret zM 139 [ptrTo b] h0 fun v h'=>Gr h0 h'/\l9 0 h0.n v h':=by
 have S:=Si ok
 have n1:=hγ.n1
 have n2:=hγ.n2
 refine ab (n:=5) (rs:=[.tmp 1]) rfl Tryz.e139 rfl rfl rfl (lbt rfl) ?_
 simp only [BS,LB,Nat.reduceLT,Nat.reduceEqDiff,Tryz.FFt4139,hb.load1 (o:=0) rfl]
 refine step_ret (one_ok S.ok (by omega) (by omega)) ?_;intro v h ⟨g,t⟩;replace S:=S.call g;clear g
 simp only [BS,LB,ac,Nat.reduceLT,Nat.reduceEqDiff]
 exact⟨S.gr,t⟩
theorem look2_ok{h0:Hp}(ok:h0.t.Sized h0.n){γ:Gra}(hγ:Good γ){vx vy va:Value}(ga:cU h0 vx vy va γ){b:Nat}(hb:Row h0 b [.int .i64 γ.nodes,vx,vy,va] 1):Ret zM 141 [ptrTo b] h0 fun v h'=>Gr h0 h'/\l9 0 h0.n v h':=by
 have S:=Si ok
 refine ab (n:=4) (rs:=[.tmp 1]) rfl Tryz.e141 rfl rfl rfl (lbt rfl) ?_
 simp only [BS,LB,Nat.reduceLT,Nat.reduceEqDiff,Tryz.FFt4141,hb.load (o:=0) (n:=4) (lbt rfl)]
 refine step_ret (shapes_ok S.ok hγ ga) ?_;intro v h ⟨g,t⟩;replace S:=S.call g;clear g
 simp only [BS,LB,ac,Nat.reduceLT,Nat.reduceEqDiff]
 exact⟨S.gr,t⟩
theorem look4_ok{h0:Hp}(ok:h0.t.Sized h0.n){γ:Gra}(hγ:Good γ){vx vy va:Value}(ga:cU h0 vx vy va γ){b:Nat}(hb:Row h0 b [.int .i64 γ.nodes,vx,vy,va] 1):Ret zM 145 [ptrTo b] h0 fun v h'=>Gr h0 h'/\l9 0 h0.n v h':=by
 have S:=Si ok
 have n2:=hγ.many
 refine ab (n:=6) (rs:=[.tmp 1]) rfl Tryz.e145 rfl rfl rfl (lbt rfl) ?_
 simp only [BS,LB,Nat.reduceLT,Nat.reduceEqDiff,Tryz.FFt4145,hb.load1 (o:=3) rfl,ga.A.lenq]
 refine step_ret (one_ok S.ok (by omega) (by omega)) ?_;intro v h ⟨g,t⟩;replace S:=S.call g;clear g
 simp only [BS,LB,ac,Nat.reduceLT,Nat.reduceEqDiff]
 exact⟨S.gr,t⟩
theorem look3_ok{h0:Hp}(ok:h0.t.Sized h0.n){γ:Gra}(hγ:Good γ){vx vy va:Value}(ga:cU h0 vx vy va γ){b n0:Nat}(hX: ∀c,av vx c->c<n0)(hY: ∀c,av vy c->c<n0)(hb:Row h0 b [.int .i64 γ.nodes,vx,vy,va] 1):Ret zM 143 [ptrTo b] h0 fun v h'=>Gr h0 h'/\l9 n0 h0.n v h':=by
 have S:=Si ok
 have n2:=hγ.n2
 have lX:=hγ.lX
 have lY:=hγ.lY
 refine ab (n:=4) (rs:=[.tmp 1]) rfl Tryz.e143 rfl rfl rfl (lbt rfl) ?_
 simp only [BS,LB,Nat.reduceLT,Nat.reduceEqDiff,Tryz.FFt4143,hb.load (o:=0) (n:=4) (lbt rfl)]
 refine step_ret (nodes_ok S.ok) ?_;intro v h ⟨g,b2,e,q2,R⟩;replace S:=S.call g;clear g
 subst e
 simp only [BS,LB,ac,Nat.reduceLT,Nat.reduceEqDiff]
 refine⟨S.gr,_,#[],#[ptrTo b2],_,_,rfl,zu S.ok R (ga.X.gr S.gr) (ga.Y.gr S.gr) (by omega) (by omega),fun p hp=>?_,fun c hc=>?_⟩
 . unfold plN at hp
   simp only [List.mem_flatMap,List.mem_range,Xv,Xx,or_false]at hp
   obtain⟨i,hi,rfl|rfl⟩:=hp
   . have:=hγ.cX γ.X[i] (Xa hi)
     simp only [zS,zW hi,Xg];omega
   . have hi':i<γ.Y.length:=by omega
     have:=hγ.cY γ.Y[i] (Xa hi')
     simp only [zS,zW hi',Xg];omega
 . rcases hc with rfl|hc|hc
   . exact .inr q2
   . exact .inl (hX c hc)
   . exact .inl (hY c hc)
theorem look5_ok{h0:Hp}(ok:h0.t.Sized h0.n){γ:Gra}(hγ:Good γ){vx vy va:Value}(ga:cU h0 vx vy va γ){b n0:Nat}(hA: ∀c,av va c->c<n0)(hb:Row h0 b [.int .i64 γ.nodes,vx,vy,va] 1):Ret zM 146 [ptrTo b] h0 fun v h'=>Gr h0 h'/\l9 n0 h0.n v h':=by
 have S:=Si ok
 have n2:=hγ.many
 refine ab (n:=4) (rs:=[.tmp 1]) rfl Tryz.e146 rfl rfl rfl (lbt rfl) ?_
 simp only [BS,LB,Nat.reduceLT,Nat.reduceEqDiff,Tryz.FFt4146,hb.load (o:=0) (n:=4) (lbt rfl)]
 refine step_ret (arcs_ok S.ok) ?_;intro v h ⟨g,b2,e,q2,R⟩;replace S:=S.call g;clear g
 subst e
 simp only [BS,LB,ac,Nat.reduceLT,Nat.reduceEqDiff]
 refine⟨S.gr,_,#[],#[ptrTo b2],_,_,rfl,arcs_iter S.ok R (ga.A.gr S.gr) (by omega),fun p hp=>?_,fun c hc=>?_⟩
 . unfold plA at hp
   simp only [List.mem_flatMap,List.mem_range,Xv,Xx,or_false]at hp
   obtain⟨i,hi,h⟩:=hp
   have:=hγ.arcs γ.arcs[i] (Xa hi)
   simp only [zS,zW hi,Xg]at h
   rcases h with rfl|rfl|rfl<;>(simp only [];omega)
 . rcases hc with rfl|hc
   . exact .inr q2
   . exact .inl (hA c hc)
open Tryz in
def Tryz.FFt566:=aj Z1<|aj Z2<|aj Z0<|aj Z3<|aj Z7<|aj Z9<|aj Z14<|aj Z17<|aj Z39<|aj Z65<|aj Z36<|aj Z5<|aj Z13<|aj Z6<|aj Z15<|aj Z8<|aj Z74<|aj Z75<|aj Z80<|aj Z38<|aj a216<|aj s216<|aj z216<|aj n216<|aj u218<|aj a218<|aj s218<|aj z218<|aj q218<|aj n218<|aj Z52<|Z46
theorem look_ok {h0:Hp} (ok:h0.t.Sized h0.n) {γ:Gra} (hγ:Good γ) {vx vy va:Value} (ga:cU h0 vx vy va γ):Ret zM 66 [fW γ vx vy va] h0 fun v h'=>Gr h0 h':=by
 have S:=Si ok
 refine ab (n:=44) (rs:=[]) rfl Tryz.e66 rfl rfl rfl (lbt rfl) ?_
 simp only [BS,Nat.reduceLT,fW]
 refine ag (aZ (by intro x e;cases e)) S ?_;clear S;intro h b S n_b;simp only [an]at S
 simp only [BS,LB,Nat.reduceLT,Nat.reduceEqDiff]
 refine ag (cm (by exact Tryz.u218) (by exact Tryz.e216E) (by decide) (by rfl)) S ?_;clear S;intro h bs S n_bs;simp only [LC,aY,bM,an,Nat.reduceMul,Nat.reduceAdd,zU,zR,zT,zY]at S
 simp only [BS,LB,Nat.reduceLT,Nat.reduceEqDiff,zX,Tryz.FFt566]
 have hq: ∀i,i<5-> ∃g a c,[Value.func (.func 139) #[] #[.pointer (some ⟨b,0,none⟩)],.func (.func 141) #[] #[.pointer (some ⟨b,0,none⟩)],.func (.func 143) #[] #[.pointer (some ⟨b,0,none⟩)],.func (.func 145) #[] #[.pointer (some ⟨b,0,none⟩)],.func (.func 146) #[] #[.pointer (some ⟨b,0,none⟩)]][i]? =some (.func (.func g) a c)/\
  ∀h',Gr h h'->Ret zM g (a.toList++c.toList) h' fun v h''=>Gr h' h''/\l9 h0.n h'.n v h'':=by
  intro i hi
  have hr:=S.row (b:=b) m1
  have ga':=ga.gr S.gr
  have wk: ∀h' v h'',Gr h' h''/\l9 0 h'.n v h''->Gr h' h''/\l9 h0.n h'.n v h'':=by
   rintro h' v h'' ⟨a,gi,a1,a2,ps,D,b1,b2,b3,b4⟩
   exact⟨a,gi,a1,a2,ps,D,b1,b2,b3,fun c hc=>(b4 c hc).elim (fun h=>by omega) .inr⟩
  match i,hi with
  |0,_=>exact⟨_,_,_,rfl,fun h' g=>py (look1_ok g.ok hγ (hr.gr g)) (wk h')⟩
  |1,_=>exact⟨_,_,_,rfl,fun h' g=>py (look2_ok g.ok hγ (ga'.gr g) (hr.gr g)) (wk h')⟩
  |2,_=>exact⟨_,_,_,rfl,fun h' g=>look3_ok g.ok hγ (ga'.gr g) (fun c hc=>ga.X.lt ok hc) (fun c hc=>ga.Y.lt ok hc) (hr.gr g)⟩
  |3,_=>exact⟨_,_,_,rfl,fun h' g=>py (look4_ok g.ok hγ (ga'.gr g) (hr.gr g)) (wk h')⟩
  |4,_=>exact⟨_,_,_,rfl,fun h' g=>look5_ok g.ok hγ (ga'.gr g) (fun c hc=>ga.A.lt ok hc) (hr.gr g)⟩
 have Rs:=S.row (b:=bs) m0
 have g0:=S.gr
 have ok1:=S.ok
 clear S ga ok
 revert hq Rs
 generalize [Value.func (.func 139) #[] #[.pointer (some ⟨b,0,none⟩)],.func (.func 141) #[] #[.pointer (some ⟨b,0,none⟩)],.func (.func 143) #[] #[.pointer (some ⟨b,0,none⟩)],.func (.func 145) #[] #[.pointer (some ⟨b,0,none⟩)],.func (.func 146) #[] #[.pointer (some ⟨b,0,none⟩)]]=fs
 intro hq Rs
 rename Hp=>h1
 have lt1:=Rs.lt ok1
 have ge1:=g0.n
 have S:=Si ok1
 refine pY (fun(i:Nat) ρ d h'=>i<=5/\ ∃dbs:List Nat,d=dbs.map pE/\St NoM h1 h' (dT dbs) []/\ρ 10=.slice (some ⟨bs,0,none⟩) 5 5/\ρ 11=.int .i64 5/\ρ 12=.int .i64 i) (fun i=>5-i) ?_ 0 _ _ _ ?_
 . clear S
   intro i ih ρ d h ⟨hi,dbs,hd,S,r10,r11,r12⟩
   have w:aq .i64 ((i:Int)+1)=((i+1:Nat):Int):=by rw [wrap64]<;>omega
   by_cases hlt:i<5
   . obtain⟨g,a,c,hfi,hr⟩:=hq i hlt
     have Rl:=(Rs.gr S.gr).load1 hfi
     have hlt':(i:Int)<5:=by omega
     simp only [BS,LB,Nat.reduceLT,Nat.reduceEqDiff,Tryz.FFt566,r10,r11,r12,hlt',hlt,Rl]
     refine ag aF S ?_;clear S;intro h b2 S n_b2
     simp only [BS,LB,Nat.reduceLT,Nat.reduceEqDiff]
     refine aC (aI S (i:=0) rfl ?_ ?_ ?_ ono) ?_
     . exact(by simp only [Tryz.FFt566])
     . exact(by exact bG)
     . exact zN (lbt rfl)
     clear S;rintro h ⟨S,mo⟩;clear mo;simp only [LC,an,lay,zO,zP,Nat.reduceAdd]at S
     simp only [BS,LB,Nat.reduceLT,Nat.reduceEqDiff]
     replace S:=S.drop1
     have kl: ∀b∈keys (dT dbs) [],b<h.n:=fun b hb=>S.key_lt hb
     refine step_ret (hr _ S.gr) ?_;intro v h ⟨g,gi,a2,post,ps,D,e,it,hps,hD⟩;replace S:=S.call g;clear g
     subst e
     simp only [BS]
     refine kA S (g:=gi) (a:=a2) (b:=post) (by simp [cB,aa]) rfl rfl ?_
     intro h2 db lb S' hdb hlb g2
     obtain⟨X,hX,S'⟩: ∃X:fF,X=_/\St NoM h1 h2 ((lb,.loop X)::(db,.dfr)::dT dbs) []:=⟨_,rfl,S'⟩
     have hJ:Yld zM lb (fun _ h' F=>St NoM h1 h' ((lb,.loop X)::(db,.dfr)::dT dbs) []/\F=keys ((lb,.loop X)::(db,.dfr)::dT dbs) []) (fun _ _=>False) (ps.map fun p=>[.agg ⟨jg p⟩]):=by
      refine⟨?_,?_,fun _ _ h=>h.elim,?_⟩
      . rintro i h F ⟨S,rfl⟩;exact⟨S.ok,fun b hb=>S.key_lt hb⟩
      . rintro i h F h' ⟨S,rfl⟩ g;exact⟨S.call g,rfl⟩
      . rintro i x h F hx ⟨S,rfl⟩
        obtain⟨p,hp,rfl⟩: ∃p∈ps,x=[.agg ⟨jg p⟩]:=by
         rw [Xl,Option.map_eq_some_iff]at hx
         obtain⟨p,h1,h2⟩:=hx
         exact⟨p,Xh h1,h2.symm⟩
        obtain⟨p1,p2⟩:=hps p hp
        have p1': ¬p.n<p.lo:=by omega
        have p2': ¬p.hi<=p.n:=by omega
        subst hX
        refine kB (S.get m0) (by rw [Tryz.e66];rfl) rfl ?_
        have S0:=S
        replace S:=S.base
        simp only [BS,Tryz.FFt566]
        refine ag aF S ?_;clear S;intro h b4 S n_b4
        simp only [BS,LB,Nat.reduceLT,Nat.reduceEqDiff,jg]
        refine aC (S.store (i:=0) rfl ?_ ?_ rfl rfl ?_ ono) ?_
        . exact(by exact Tryz.s220)
        . exact(by intro x e;cases e)
        . exact lbt rfl
        clear S;rintro h ⟨S,mo⟩;clear mo;simp only [LC,an,lay,zO,zP,Nat.reduceAdd]at S
        simp only [BS]
        refine jG S (i:=1) rfl rfl rfl rfl rfl ?_
        clear S;intro h S
        simp only [BS,LB,Nat.reduceLT,Nat.reduceEqDiff,Tryz.FFt566,p1',p2',S.ld (b:=b4) (o:=3) m0 rfl,S.ld (b:=b4) (o:=4) m0 rfl,S.ld (b:=b4) (o:=5) m0 rfl]
        refine gK S (i:=1) rfl ?_
        clear S;intro h S
        exact .inl ⟨rfl,_,⟨S0.rebase S.drop1,rfl⟩,S.fr,S.drop1.key_new⟩
     refine eY (vz it hJ (h:=h2) (F:=keys ((lb,.loop _)::(db,.dfr)::dT dbs) []) g2.fr (fun b hb hlt=>?_) ⟨S',rfl⟩) fun o rc h' y=>oq y ?_
     . intro hd
       have hS:=S'.key_own hb
       rcases hD b hd with hh|hh
       . rcases hS with hS|hS
         . omega
         . exact hS
       . rcases List.mem_cons.1 hb with rfl|hb
         . omega
         . rcases List.mem_cons.1 hb with rfl|hb
           . omega
           . have:=kl b hb;omega
     . rintro F ⟨S,rfl⟩
       subst hX
       refine⟨_,S.get m0,Nat.zero_ne_one,?_⟩
       replace S:=S.dead
       show Run _ _ _ _ _ _ _ _
       simp only [BS,LB,Nat.reduceLT,Nat.reduceEqDiff,r12,w]
       exact ih (i+1) _ _ _ (by omega) ⟨by omega,db::dbs,by rw [hd];rfl,S,by simp [aa,r10],by simp [aa,r11],by simp [aa]⟩
   . have hlt': ¬(i:Int)<5:=by omega
     simp only [BS,LB,Nat.reduceLT,r11,r12,hlt']
     subst hd
     refine dD (kw dbs h (L:=[]) (by rw [Xc];exact S) fun h' S'=>⟨rfl,_,rfl,g0.trans S'.gr⟩)
 . exact⟨by omega,[],rfl,S,by simp [aa],by simp [aa],by simp [aa]⟩
end Go.Ab
end
section
namespace Go.Ab
theorem aA.form{α:Type}{h:Hp}{k:Nat}{enc:α->List Value}{v:Value}{xs:List α}(s:aA h k enc v xs): ∃a n c,v=.slice a n c:=by
 rcases s with⟨rfl,_⟩|⟨b,o,s,c,rfl,_⟩<;>exact⟨_,_,_,rfl⟩
section
variable{M:Nat->Prop}{h0 h:Hp}{E:Env}{L:List (Nat×Ob)}{G:List GL}
def WrK{α:Type}(h:Hp)(k:Nat)(enc:α->List Value)(w:Value)(l:List α):Prop:=l≠ []-> ∃b,w=.slice (some ⟨b,0,some k⟩) l.length l.length/\Row h b (l.flatMap enc) 1
theorem WrK.mo{α:Type}{M:Nat->Prop}{h h':Hp}{k:Nat}{enc:α->List Value}{w:Value}{l:List α}(r:WrK h k enc w l)(g:Mo M h h')(hm: ∀b,av w b-> ¬M b):WrK h' k enc w l:=
 fun hl=>by obtain⟨b,e,k⟩:=r hl;exact⟨b,e,g.has (o:=.row _ 1) k (hm b (by rw [e];rfl))⟩
theorem St.cloneW{α:Type}{enc:α->List Value}{ys:List α}(S:St M h0 h L G){t tx e:TypeId}{by_ k md:Nat}{zs:List Value}{b:Nat}{x:Value}(hu:E.und t=some (.slice e))(he:eB E e by_ k zs)(hb:0<by_)
 (hx:az E tx=some false) (hs:aA h k enc x ys) (hen: ∀x,(enc x).length=k) (hk:0<k) (hsz:(ys.length*k)*(by_+1)<=70368744177664) {ts:List TypeId}
 (hl:Row h b [] md):
 ∃h' v',cL E h (t::tx::ts) (.slice (some ⟨b,0,none⟩) 0 0) x=some (h',v')/\St M h0 h' L G/\Gr h h'/\aA h' k enc v' ys/\(∀c,av v' c->c=b\/h.n<=c)/\WrK h' k enc v' ys:=by
 obtain⟨h',v',h1,h2,h3,h4,h5⟩:=S.cloneSl (enc:=enc) (xs:=[]) hu he hb hx hs hen hk (by simpa using hsz) (ts:=ts) (b:=b) (md:=md) (by simpa using hl)
 refine⟨h',v',h1,h2,h3,by simpa using h4,h5,fun hne=>?_⟩
 obtain⟨h'',v'',k1,k2⟩:=S.clone hu he hb hx hs.src (aX hen ys).symm (n:=0) (by simp) hk (by rw [aX hen];simpa using hsz) (ts:=ts) hl
 have h1':cL E h (t::tx::ts) (.slice (some ⟨b,0,none⟩) 0 0) x=some (h',v'):=h1
 rw [h1']at k1
 cases k1
 rcases k2 with⟨hm,_⟩|⟨b',e1,T⟩
 . exact absurd (List.length_eq_zero_iff.1 hm) hne
 . refine⟨b',by rw [e1,zR],?_⟩
   have:=T.row (b:=b') m0
   simpa using this
end
end Go.Ab

end
section
namespace Go.Ab
open Go.Proofs
set_option maxRecDepth 10000
def Tryz.FFt665:=aj Z1<|aj Z2<|aj Z0<|aj Z3<|aj Z7<|aj Z36<|aj Z70<|aj Z74<|aj Z75<|Z80
def Tryz.FFt631:=aj Z1<|aj Z2<|aj Z0<|aj Z5<|aj Z13<|aj Z6<|aj Z70<|Z8
def Tryz.FFt671:=aj Z1<|aj Z2<|aj Z0<|aj Z3<|Z5
def Tryz.FFt672:=aj Z1<|aj Z2<|aj Z0<|aj Z3<|aj Z13<|Z8
theorem check1_ok{h0:Hp}(ok:h0.t.Sized h0.n){b:Nat}:dS zM 65 [ptrTo b] none h0 fun o rc h'=>(∃v,o=.ret v)/\rc=none/\Gr h0 h':=by
 have S:=Si ok
 refine enter (n:=17) (rs:=[]) rfl Tryz.e65 rfl rfl rfl (lbt rfl) ?_
 simp only [BS,LB,Nat.reduceLT,Nat.reduceEqDiff,Tryz.FFt665]
 exact dD (cS ⟨rfl,_,rfl,⟨_,rfl⟩,rfl,S.gr⟩)
theorem check_ok{h0:Hp}(ok:h0.t.Sized h0.n){γ:Gra}(hγ:Good γ){vx vy va:Value}(ga:cU h0 vx vy va γ):bK zM 31 [fW γ vx vy va] h0 .nilIface:=by
 have S:=Si ok
 refine ab (n:=6) (rs:=[.cell 2 41]) rfl Tryz.e31 rfl rfl rfl (lbt rfl) ?_
 simp only [BS,Nat.reduceLT,fW]
 refine ag (aZ (by intro x e;cases e)) S ?_;clear S;intro h b S n_b;simp only [an]at S
 simp only [BS,Tryz.FFt631]
 refine ag aF S ?_;clear S;intro h b2 S n_b2
 simp only [BS,LB,Nat.reduceLT,Nat.reduceEqDiff,Tryz.FFt631,S.lds (b:=b) (o:=0) (n:=4) m1 (lbt rfl)]
 refine step_ret (look_ok S.ok hγ (ga.gr S.gr)) ?_;intro v h g;replace S:=S.call g;clear g
 simp only [BS,LB,Nat.reduceLT,Nat.reduceEqDiff]
 refine aC (aI S (i:=0) rfl ?_ ?_ ?_ ono) ?_
 . exact(by simp only [Tryz.FFt631])
 . exact(by exact fl_nili)
 . exact zN (lbt rfl)
 clear S;rintro h ⟨S,mo⟩;clear mo;simp only [LC,an,lay,zO,zP,Nat.reduceAdd]at S
 simp only [BS]
 refine ff (un_fn (eY (check1_ok S.ok) fun o rc h' ⟨a,b,g⟩=>⟨a,b,cS ⟨rfl,?_⟩⟩))
 replace S:=S.call g
 have l:=S.ld (b:=b2) (o:=0) m0 rfl
 exact⟨_,qP (by decide) (by simp only [aS,ae,Nat.reduceEqDiff,reduceIte];exact kI Tryz.a41 l),rfl,S.gr⟩
theorem sj{h0:Hp}(ok:h0.t.Sized h0.n){v:Value}{xs:List Int}(hs:aA h0 1 (encI .i64) v xs)(hl:xs.length<1000000):Ret zM 71 [v] h0 fun r h'=>Gr h0 h'/\aA h' 1 (encI .i64) r xs/\ ∀c,av r c->h0.n<=c:=by
 have S:=Si ok
 rcases hs with⟨rfl,rfl⟩|⟨b,o,s,c,rfl,h2,h3⟩
 . refine ab (n:=8) (rs:=[.tmp 2]) rfl Tryz.e71 rfl rfl rfl (lbt rfl) ?_
   simp only [BS,LB,ac,Nat.reduceLT,Nat.reduceEqDiff,Tryz.FFt671]
   exact⟨S.gr,.inl ⟨rfl,rfl⟩,fun c hc=>hc.elim⟩
 . refine ab (n:=8) (rs:=[.tmp 2]) rfl Tryz.e71 rfl rfl rfl (lbt rfl) ?_
   simp only [BS,LB,Nat.reduceLT,Nat.reduceEqDiff,Tryz.FFt671]
   refine ag (cm (by exact Xy) (by exact Xz) (by decide) (by rfl)) S ?_;clear S;intro h bb S n_bb;simp only [LC,aY,bM,an,Nat.reduceMul,Nat.reduceAdd,zU,zR,zT,zY]at S
   simp only [BS,LB,Nat.reduceLT,Nat.reduceEqDiff]
   refine fL (S.cloneSl (enc:=encI .i64) (xs:=[]) Xy Xz (by decide) Tryz.n24 (.inr ⟨b,o,s,c,rfl,h2,S.old h3 (fun h=>h)⟩) (fun x=>rfl) (by decide) (by simp only [XD,zR];omega) (S.row m0)) ?_
   rintro h' v ⟨S',g,sl,hc⟩
   simp only [BS,LB,ac,Nat.reduceLT,Nat.reduceEqDiff]
   refine⟨S'.gr,by simpa using sl,fun c h=>(hc c h).elim (fun e=>by omega) (fun e=>zV S.fr.n e)⟩
theorem yB{h0:Hp}(ok:h0.t.Sized h0.n){v:Value}{xs:List Arc}(hs:aA h0 3 (cy) v xs)(hl:xs.length<1000000):Ret zM 72 [v] h0 fun r h'=>Gr h0 h'/\aA h' 3 (cy) r xs/\(∀c,av r c->h0.n<=c)/\WrK h' 3 cy r xs:=by
 have S:=Si ok
 rcases hs with⟨rfl,rfl⟩|⟨b,o,s,c,rfl,h2,h3⟩
 . refine ab (n:=8) (rs:=[.tmp 2]) rfl Tryz.e72 rfl rfl rfl (lbt rfl) ?_
   simp only [BS,LB,ac,Nat.reduceLT,Nat.reduceEqDiff,Tryz.FFt672]
   exact⟨S.gr,.inl ⟨rfl,rfl⟩,fun c hc=>hc.elim,fun h=>absurd rfl h⟩
 . refine ab (n:=8) (rs:=[.tmp 2]) rfl Tryz.e72 rfl rfl rfl (lbt rfl) ?_
   simp only [BS,LB,Nat.reduceLT,Nat.reduceEqDiff,Tryz.FFt672]
   refine ag (cm (by exact Xn) (by exact Xk) (by decide) (by rfl)) S ?_;clear S;intro h bb S n_bb;simp only [LC,aY,bM,an,Nat.reduceMul,Nat.reduceAdd,zU,zR,zT,zY]at S
   simp only [BS,LB,Nat.reduceLT,Nat.reduceEqDiff]
   refine fL (S.cloneW (enc:=cy) (ys:=xs) Xn Xk (by decide) XO (.inr ⟨b,o,s,c,rfl,h2,S.old h3 (fun h=>h)⟩) (fun x=>rfl) (by decide) (by omega) (S.row m0)) ?_
   rintro h' v ⟨S',g,sl,hc,w⟩
   simp only [BS,LB,ac,Nat.reduceLT,Nat.reduceEqDiff]
   exact⟨S'.gr,sl,fun c h=>(hc c h).elim (fun e=>by omega) (fun e=>zV S.fr.n e),w⟩
def Tryz.FFt729:=aj Z1<|aj Z2<|aj Z0<|aj Z3<|aj Z7<|aj Z66<|aj Z76<|Z77
structure DrAt(h:Hp)(bd:Nat)(vB:Value)(xs:List Int)(a:Nat):Prop where
 sl:aA h 1 (encI .u8) vB xs
 ne: ¬av vB bd
 few:xs.length<1000000
 at_:a<100000
def drV(xs:List Int)(n a:Nat):Nat:=if h:xs.length=0 then 0 else(aq .u8 (xs[a%xs.length]'(Nat.mod_lt _ (by omega))+aq .u8 (aq .i64 ((a:Int).tdiv (xs.length:Int))))%(n:Int)).toNat
theorem vv{h0:Hp}(ok:h0.t.Sized h0.n){bd a n:Nat}{vB:Value}{xs:List Int}(hr:Row h0 bd [vB,.int .i64 a] 1)(hd:DrAt h0 bd vB xs a)(hn:1<=n)(hn2:n<1000):
 Ret zM 29 [ptrTo bd,.int .i64 n] h0 fun v h'=>Mo (· =bd) h0 h'/\ ∃r a':Nat,v=.int .i64 r/\r<n/\a'<=a+1/\Row h' bd [vB,.int .i64 a'] 1/\r=drV xs n a:=by
 have S:=St.init1 ok (o:=.row [vB,.int .i64 a] 1) hr
 obtain⟨hs,hne,hx,ha⟩:=hd
 have fl:=hs.fl
 have w1:aq .i64 ((a:Int)+1)=((a+1:Nat):Int):=by rw [wrap64]<;>omega
 have w2:aq .i64 (((a+1:Nat):Int)-1)=(a:Int):=by rw [wrap64]<;>omega
 have c1: ¬(n:Int)<1:=by omega
 by_cases h0':xs.length=0
 . have c0:(xs.length:Int)=0:=by omega
   refine ab (n:=55) (rs:=[.tmp 4]) rfl Tryz.e29 rfl rfl rfl (lbt rfl) ?_
   simp only [BS,LB,ac,Nat.reduceLT,Nat.reduceEqDiff,Tryz.FFt729,hs.lenq,c0,S.ld (b:=bd) (o:=0) m0 rfl]
   exact⟨S.fr,0,a,rfl,by omega,by omega,S.row m0,by unfold drV;rw [dif_pos h0']⟩
 . have c0: ¬(xs.length:Int)=0:=by omega
   have hmod:a%xs.length<xs.length:=Nat.mod_lt _ (by omega)
   have tm:(a:Int).tmod (xs.length:Int)=((a%xs.length:Nat):Int):=by rw [Xi (by omega)];exact(Int.natCast_emod _ _).symm
   refine ab (n:=55) (rs:=[.tmp 4]) rfl Tryz.e29 rfl rfl rfl (lbt rfl) ?_
   simp only [BS,LB,Nat.reduceLT,Nat.reduceEqDiff,Tryz.FFt729,hs.lenq,c0,c1,w1,S.ld (b:=bd) (o:=0) m0 rfl,S.ld (b:=bd) (o:=1) m0 rfl]
   refine aC (aI S (i:=0) rfl ?_ ?_ ?_ ono) ?_
   . exact(by simp only [Tryz.FFt729])
   . exact(by exact bG)
   . exact zN (lbt rfl)
   clear S;rintro h ⟨S,mo⟩;clear mo;simp only [LC,an,lay,zO,zP,Nat.reduceAdd]at S
   have hs':aA h 1 (encI .u8) vB xs:=hs.mo S.fr (fun b hb e=>hne (e▸hb))
   obtain⟨c,o,hidx,hld⟩:=hs'.ix (kd:=.i64) (dV _) hmod
   have cz:(xs.length:Int)≠0:=c0
   have cn:(n:Int)≠0:=by omega
   simp only [BS]
   refine aD (aM rfl) (q:=0) (ps:=[]) (by kernel_rfl) ?_
   simp only [BS,LB,jH,bW,jz,cls,ac,Nat.reduceLT,Nat.reduceEqDiff,Nat.reduceAdd,Nat.reducePow,Nat.reduceDiv,Nat.reduceMod,Nat.reduceLeDiff,Tryz.FFt729,hs'.lenq,w2,nQ cz,b_quo cz,nQ cn,tm,hidx,hld,encI,S.ld (b:=bd) (o:=0) m0 rfl,S.ld (b:=bd) (o:=1) m0 rfl]
   have hr:(aq .i64 (aq .u8 (xs[a%xs.length]+aq .u8 (aq .i64 ((a:Int).tdiv (xs.length:Int)))))).tmod (n:Int)=((drV xs n a:Nat):Int)/\drV xs n a<n:=by
    unfold drV
    rw [dif_neg h0']
    generalize xs[a%xs.length]+aq .u8 (aq .i64 ((a:Int).tdiv (xs.length:Int)))=z
    have h8:=wrap8 z
    rw [wrap64 (by omega) (by omega),Xi (by omega)]
    have h1:=Int.emod_nonneg (aq .u8 z) cn
    have h2:=Int.emod_lt_of_pos (aq .u8 z) (show(0:Int)<n by omega)
    exact⟨by omega,by omega⟩
   rw [hr.1]
   exact⟨S.fr,_,a+1,rfl,hr.2,Xt _,S.row m0,rfl⟩
theorem hU{h0:Hp}(ok:h0.t.Sized h0.n){bd a n:Nat}{vB:Value}{xs:List Int}(hr:Row h0 bd [vB,.int .i64 a] 1)(hd:DrAt h0 bd vB xs a)(hn:1<=n)(hn2:n<1000):
 Ret zM 29 [ptrTo bd,.int .i64 n] h0 fun v h'=>Mo (· =bd) h0 h'/\ ∃r a':Nat,v=.int .i64 r/\r<n/\a'<=a+1/\Row h' bd [vB,.int .i64 a'] 1:=
 (vv ok hr hd hn hn2).mono fun v h' ⟨f,r,a',e,h1,h2,h3,_⟩=>⟨f,r,a',e,h1,h2,h3⟩
theorem DrAt.mo{h h':Hp}{bd:Nat}{vB:Value}{xs:List Int}{a a':Nat}(d:DrAt h bd vB xs a)(f:Mo (· =bd) h h')(ha:a'<100000):DrAt h' bd vB xs a':=
 ⟨d.sl.mo f (fun b hb e=>d.ne (e▸hb)),d.ne,d.few,ha⟩
theorem DrAt.gr{h h':Hp}{bd:Nat}{vB:Value}{xs:List Int}{a:Nat}(d:DrAt h bd vB xs a)(g:Gr h h'):DrAt h' bd vB xs a:=⟨d.sl.gr g,d.ne,d.few,d.at_⟩
theorem uy{h0:Hp}(ok:h0.t.Sized h0.n){bd a:Nat}{vB:Value}{xs:List Int}(hr:Row h0 bd [vB,.int .i64 a] 1)(hd:DrAt h0 bd vB xs a)(ha:a+2<100000):
 Ret zM 30 [ptrTo bd] h0 fun v h'=>Mo (· =bd) h0 h'/\ ∃r a':Nat,v=.int .i64 r/\r<=2147483647/\a'<=a+2/\Row h' bd [vB,.int .i64 a'] 1:=by
 have S:=St.init1 ok (o:=.row [vB,.int .i64 a] 1) hr
 refine ab (n:=24) (rs:=[.tmp 2]) rfl Tryz.e30 rfl rfl rfl (lbt rfl) ?_
 simp only [BS,LB,Nat.reduceLT,Nat.reduceEqDiff]
 refine step_ret (hU (n:=12) S.ok (S.row m0) hd (by omega) (by omega)) ?_
 rintro v h ⟨f,r,a1,rfl,hr1,ha1,R1⟩
 replace S:=S.call1 (i:=0) rfl f (o':=.row _ _) R1
 have hd1:DrAt h bd vB xs a1:=hd.mo f (by omega)
 simp only [LC]at S
 by_cases c1:(r:Int)<3
 . simp only [BS,LB,ac,Nat.reduceLT,Nat.reduceEqDiff,c1]
   exact⟨S.fr,0,a1,rfl,by omega,by omega,S.row m0⟩
 . by_cases c2:(r:Int)<10
   . simp only [BS,LB,Nat.reduceLT,Nat.reduceEqDiff,c1,c2]
     refine step_ret (hU (n:=9) S.ok (S.row m0) hd1 (by omega) (by omega)) ?_
     rintro v h ⟨f,r2,a2,rfl,hr2,ha2,R2⟩
     replace S:=S.call1 (i:=0) rfl f (o':=.row _ _) R2
     simp only [LC]at S
     have w1:aq .i64 (1+(r2:Int))=((1+r2:Nat):Int):=by rw [wrap64]<;>omega
     simp only [BS,LB,ac,Nat.reduceLT,Nat.reduceEqDiff,w1]
     exact⟨S.fr,1+r2,a2,rfl,by omega,by omega,S.row m0⟩
   . by_cases c3:(r:Int)<11
     . simp only [BS,LB,Nat.reduceLT,Nat.reduceEqDiff,c1,c2,c3]
       refine step_ret (hU (n:=20) S.ok (S.row m0) hd1 (by omega) (by omega)) ?_
       rintro v h ⟨f,r2,a2,rfl,hr2,ha2,R2⟩
       replace S:=S.call1 (i:=0) rfl f (o':=.row _ _) R2
       simp only [LC]at S
       have w1:aq .i64 (100*(r2:Int))=((100*r2:Nat):Int):=by rw [wrap64]<;>omega
       simp only [BS,LB,ac,Nat.reduceLT,Nat.reduceEqDiff,w1]
       exact⟨S.fr,100*r2,a2,rfl,by omega,by omega,S.row m0⟩
     . simp only [BS,LB,Nat.reduceLT,Nat.reduceEqDiff,c1,c2,c3]
       refine step_ret (hU (n:=2) S.ok (S.row m0) hd1 (by omega) (by omega)) ?_
       rintro v h ⟨f,r2,a2,rfl,hr2,ha2,R2⟩
       replace S:=S.call1 (i:=0) rfl f (o':=.row _ _) R2
       simp only [LC]at S
       have w1:aq .i64 (2147483647-(r2:Int))=((2147483647-r2:Nat):Int):=by rw [wrap64]<;>omega
       simp only [BS,LB,ac,Nat.reduceLT,Nat.reduceEqDiff,w1]
       exact⟨S.fr,2147483647-r2,a2,rfl,by omega,by omega,S.row m0⟩
open Tryz in
def Tryz.FFt811:=aj Z1<|aj Z2<|aj Z0<|aj Z3<|aj Z7<|aj Z9<|aj Z14<|aj Z17<|aj Z19<|aj Z27<|aj Z40<|aj Z29<|aj Z37<|aj Z41<|aj Z47<|aj Z53<|aj Z39<|aj Z67<|aj Z65<|aj Z36<|aj u21<|aj a21<|aj s21<|aj z21<|aj i21<|aj Z66<|aj Z71<|aj Z5<|aj Z13<|aj Z6<|aj Z76<|aj Z77<|aj Z8<|aj Z54<|aj Z55<|aj Z56<|aj Z48<|aj Z57<|aj Z58<|aj Z59<|aj Z60<|aj Z61<|aj Z62<|Z46
def ints(l:List Int):List Value:=l.flatMap (encI .i64)
theorem cN(l:List Int):(ints l).length=l.length:=by unfold ints;rw [aX (k:=1) (fun _=>rfl)];omega
theorem nD(l m:List Int):ints (l++m)=ints l++ints m:=by unfold ints;rw [Xb]
theorem raw0_ok {h0:Hp} (ok:h0.t.Sized h0.n) {bd:Nat} {vB:Value} {xs:List Int} (hr:Row h0 bd [vB,.int .i64 ((0:Nat):Int)] 1) (hd:DrAt h0 bd vB xs 0):
 Ret zM 11 [ptrTo bd] h0 fun v h'=>Mo (· =bd) h0 h'/\ ∃γ vx vy va,v=fW γ vx vy va/\Good γ/\γ.nodes=1+drV xs 12 0/\cU h' vx vy va γ/\ ∀c,(av vx c\/av vy c\/av va c)->h0.n<=c:=by
 have S:=St.init1 ok (o:=.row [vB,.int .i64 ((0:Nat):Int)] 1) hr
 have lt0:=hr.lt ok
 refine ab (n:=117) (rs:=[.cell 2 31]) rfl Tryz.e11 rfl rfl rfl (lbt rfl) ?_
 simp only [BS,Tryz.FFt811]
 refine ag aF S ?_;clear S;intro h b2 S n_b2
 simp only [BS,LB,Nat.reduceLT,Nat.reduceEqDiff]
 refine step_ret (vv (n:=12) (a:=0) S.ok (S.row m1) (hd.mo S.fr (by omega)) (by omega) (by omega)) ?_
 rintro v h ⟨f,r0,a0,rfl,hr0,ha0,R,eR0⟩
 replace S:=S.call1 (i:=1) rfl f (o':=.row _ _) R
 simp only [LC]at S
 have w1:aq .i64 (1+(r0:Int))=((1+r0:Nat):Int):=by rw [wrap64]<;>omega
 simp only [BS,LB,Nat.reduceLT,Nat.reduceEqDiff,Nat.reduceAdd,Tryz.FFt811,w1]
 refine ag aF S ?_;clear S;intro h b3 S n_b3
 simp only [BS,LB,Nat.reduceLT,Nat.reduceEqDiff]
 refine aC (S.store (i:=0) rfl ?_ ?_ rfl rfl ?_ ono) ?_
 . exact(by exact Tryz.s7)
 . exact(by intro x e;cases e)
 . exact lbt rfl
 clear S;rintro h ⟨S,mo⟩;clear mo;simp only [LC,an,lay,zO,zP,Nat.reduceAdd]at S
 simp only [BS]
 replace S:=((S.nilG (k:=3)).nilG (k:=1)).nilG (k:=1)
 generalize hN:1+r0=N at S
 refine bA (fun(i:Nat) ρ h=>i<=N/\ ∃(a:Nat) (vX vY:Value) (X Y:List Int),a<=1+2*i/\X.length=i/\Y.length=i/\(∀x∈X,-2147483648<=x/\x<=2147483647)/\(∀x∈Y,-2147483648<=x/\x<=2147483647)/\
  St (· =bd) h0 h [(b3,.row [.int .i64 N,vX,vY,.slice none 0 0] 1),(b2,.row [.int .i64 0,.slice none 0 0,.slice none 0 0,.slice none 0 0] 1),(bd,.row [vB,.int .i64 a] 1)] [(vX,1,ints X),(vY,1,ints Y),(.slice none 0 0,3,[])]/\
  ρ 0=ptrTo bd/\ρ 2=ptrTo b2/\ρ 3=ptrTo b3/\ρ 4=.int .i64 i) (fun i=>N-i) ?_ 0 _ _ ?_
 . clear S
   intro i ih ρ h ⟨hi,a,vX,vY,X,Y,ha,lX,lY,cX,cY,S,r0,r2,r3,r4⟩
   by_cases hlt:i<N
   . simp only [BS,LB,Nat.reduceLT,Nat.reduceEqDiff,Tryz.FFt811,r3,r4,aP,hlt,S.ld (b:=b3) (o:=0) m0 rfl]
     refine aD (aM rfl) (q:=32) (ps:=[(1,3)]) (by kernel_rfl) ?_
     simp only [BS,LB,cls,Nat.reduceLT,Nat.reduceEqDiff,Nat.reduceAdd,Nat.reducePow,Nat.reduceDiv,Nat.reduceMod,Nat.reduceLeDiff,Tryz.FFt811,r0,r3,S.ld (b:=b3) (o:=1) m0 rfl]
     refine dp (hU (n:=9) (a:=a) S.ok (S.row m2) (hd.mo S.fr (by omega)) (by omega) (by omega)) ?_
     rintro v h ⟨f,r1,a1,rfl,hr1,ha1,R⟩
     have hl:=S.leaves (c:=b3) m0 f (by omega)
     replace S:=S.call1 (i:=2) rfl f (o':=.row _ _) R
     simp only [LC]at S
     have w9:aq .i64 ((r1:Int)-3)=(r1:Int)-3:=by rw [wrap64]<;>omega
     simp only [BS,LB,cls,Nat.reduceLT,Nat.reduceEqDiff,Nat.reduceAdd,Nat.reducePow,Nat.reduceDiv,Nat.reduceMod,Nat.reduceLeDiff,w9]
     refine dC (cm (by exact Xy) (by exact Xz) (by decide) (by rfl)) S ?_;clear S;intro h bs S n_bs e_bs;simp only [LC,aY,bM,an,Nat.reduceMul,Nat.reduceAdd,zU,zR,zT,zY]at S
     simp only [BS,LB,cls,Nat.reduceLT,Nat.reduceEqDiff,Nat.reduceAdd,Nat.reducePow,Nat.reduceDiv,Nat.reduceMod,Nat.reduceLeDiff]
     refine jK (S.grow (j:=0) (m:=1) (new:=ints [(r1:Int)-3]) rfl Xy Xz (by decide) Tryz.n24 (by simp only [aO];rw [S.lds (b:=bs) (o:=0) (n:=1*1) m0 (lbt rfl)];rfl) rfl (by decide) rfl (by rw [cN,cN];simp;omega)) ?_
     clear S
     rintro h vX' S
     simp only [LC]at S
     replace S:=S.drop1
     rw [<-nD]at S
     have fX:Fl vX':=(S.gown _ m0).1.fl
     simp only [BS,LB,cls,Nat.reduceLT,Nat.reduceEqDiff,Nat.reduceAdd,Nat.reducePow,Nat.reduceDiv,Nat.reduceMod,Nat.reduceLeDiff,Tryz.FFt811,r3]
     refine dK (aI S (i:=0) rfl ?_ ?_ ?_ ono) ?_
     . exact(by simp only [Tryz.FFt811])
     . exact(by assumption)
     . exact zN (lbt rfl)
     clear S;rintro h ⟨S,mo⟩;clear mo;simp only [LC,an,lay,zO,zP,Nat.reduceAdd]at S
     simp only [BS,Nat.reduceAdd]
     refine⟨by simp only [bH,bO,bg,bV,bD,ne_eq,not_false_eq_true,bU,cu,bJ,bF,cB,dt,aS,Nat.reduceLT,Nat.reduceEqDiff,reduceIte,zZ,r3,ae,aB hl],?_⟩
     refine aD (aM rfl) (q:=16) (ps:=[(1,3)]) (by kernel_rfl) ?_
     simp only [BS,LB,cls,Nat.reduceLT,Nat.reduceEqDiff,Nat.reduceAdd,Nat.reducePow,Nat.reduceDiv,Nat.reduceMod,Nat.reduceLeDiff,Tryz.FFt811,r0,r3,S.ld (b:=b3) (o:=2) m0 rfl]
     clear f hl R
     refine dp (hU (n:=7) (a:=a1) S.ok (S.row m2) (hd.mo S.fr (by omega)) (by omega) (by omega)) ?_
     rintro v h ⟨f,r5,a2,rfl,hr5,ha2,R⟩
     have hl:=S.leaves (c:=b3) m0 f (by omega)
     replace S:=S.call1 (i:=2) rfl f (o':=.row _ _) R
     simp only [LC]at S
     simp only [BS,LB,cls,Nat.reduceLT,Nat.reduceEqDiff,Nat.reduceAdd,Nat.reducePow,Nat.reduceDiv,Nat.reduceMod,Nat.reduceLeDiff]
     refine dC (cm (by exact Xy) (by exact Xz) (by decide) (by rfl)) S ?_;clear S;intro h bs S n_bs e_bs;simp only [LC,aY,bM,an,Nat.reduceMul,Nat.reduceAdd,zU,zR,zT,zY]at S
     simp only [BS,LB,cls,Nat.reduceLT,Nat.reduceEqDiff,Nat.reduceAdd,Nat.reducePow,Nat.reduceDiv,Nat.reduceMod,Nat.reduceLeDiff]
     refine jK (S.grow (j:=1) (m:=1) (new:=ints [(r5:Int)]) rfl Xy Xz (by decide) Tryz.n24 (by simp only [aO];rw [S.lds (b:=bs) (o:=0) (n:=1*1) m0 (lbt rfl)];rfl) rfl (by decide) rfl (by rw [cN,cN];simp;omega)) ?_
     clear S
     rintro h vY' S
     simp only [LC]at S
     replace S:=S.drop1
     rw [<-nD]at S
     have fY:Fl vY':=(S.gown _ m1).1.fl
     simp only [BS,LB,cls,Nat.reduceLT,Nat.reduceEqDiff,Nat.reduceAdd,Nat.reducePow,Nat.reduceDiv,Nat.reduceMod,Nat.reduceLeDiff,Tryz.FFt811,r3]
     refine dK (aI S (i:=0) rfl ?_ ?_ ?_ ono) ?_
     . exact(by simp only [Tryz.FFt811])
     . exact(by assumption)
     . exact zN (lbt rfl)
     clear S;rintro h ⟨S,mo⟩;clear mo;simp only [LC,an,lay,zO,zP,Nat.reduceAdd]at S
     simp only [BS,LB,Nat.reduceLT,Nat.reduceEqDiff,Nat.reduceAdd,r4]
     refine⟨by simp only [bH,bO,bg,bV,bD,ne_eq,not_false_eq_true,bU,cu,bJ,bF,cB,dt,aS,Nat.reduceLT,Nat.reduceEqDiff,reduceIte,zZ,r3,ae,aB hl],?_⟩
     have w:aq .i64 ((i:Int)+1)=((i+1:Nat):Int):=by rw [wrap64]<;>omega
     simp only [w]
     exact ih (i+1) _ _ (by omega) ⟨by omega,a2,vX',vY',_,_,by omega,by simp [lX],by simp [lY],
      fun x hx=>(List.mem_append.1 hx).elim (cX x) (fun h=>by simp at h;omega),fun x hx=>(List.mem_append.1 hx).elim (cY x) (fun h=>by simp at h;omega),S,by simp [aa,r0,ae],by simp [aa,r2,ae],by simp [aa,r3,ae],by simp [aa]⟩
   . have hiN : i=N:=by omega
     subst hiN
     simp only [BS,LB,Nat.reduceLT,Nat.reduceEqDiff,Tryz.FFt811,r0,r3,r4,aP,hlt,S.ld (b:=b3) (o:=0) m0 rfl]
     refine step_ret (hU (n:=9) (a:=a) S.ok (S.row m2) (hd.mo S.fr (by omega)) (by omega) (by omega)) ?_
     rintro v h ⟨f,r5,a1,rfl,hr5,ha1,R⟩
     replace S:=S.call1 (i:=2) rfl f (o':=.row _ _) R
     simp only [LC]at S
     simp only [BS,LB,Nat.reduceLT,Nat.reduceEqDiff]
     refine sI (fun ρ h=> ∃(X Y:List Int),X.length=i/\Y.length=i/\(∀x∈X,-2147483648<=x/\x<=2147483647)/\(∀x∈Y,-2147483648<=x/\x<=2147483647)/\
      St (· =bd) h0 h [(b3,.row [.int .i64 i,vX,vY,.slice none 0 0] 1),(b2,.row [.int .i64 0,.slice none 0 0,.slice none 0 0,.slice none 0 0] 1),(bd,.row [vB,.int .i64 a1] 1)] [(vX,1,ints X),(vY,1,ints Y),(.slice none 0 0,3,[])]/\
      ρ 0=ptrTo bd/\ρ 2=ptrTo b2/\ρ 3=ptrTo b3) ?_ ?_ ?_
     . intro _
       obtain⟨bX,ix,stX⟩:=S.gset (E:=zM) (t:=2) (j:=0) (i:=0) (kd:=.i64) rfl (by rw [cN];omega) Tryz.s2
       have ix':idxS (some 1) vX (.int .i64 0)=_:=ix
       simp only [BS,LB,Nat.reduceLT,Nat.reduceEqDiff,Tryz.FFt811,r3,ix',S.ld (b:=b3) (o:=1) m0 rfl]
       refine aC (stX _ bG) ?_
       clear S stX;intro h S
       simp only [LC]at S
       obtain⟨bY,iy,stY⟩:=S.gset (E:=zM) (t:=2) (j:=1) (i:=i-1) (kd:=.i64) rfl (by rw [cN];omega) Tryz.s2
       have w1:aq .i64 ((i:Int)-1)=((i-1:Nat):Int):=by rw [wrap64]<;>omega
       simp only [BS,LB,Nat.reduceLT,Nat.reduceEqDiff,Tryz.FFt811,r3,w1,iy,S.ld (b:=b3) (o:=0) m0 rfl,S.ld (b:=b3) (o:=2) m0 rfl]
       refine aC (stY _ bG) ?_
       clear S stY;intro h S
       simp only [LC]at S
       simp only [BS]
       have eset: ∀(l:List Int) (j:Nat) (z:Int),(ints l).set j (.int .i64 z)=ints (l.set j z):=by
        intro l
        induction l with
        |nil=>intro j z;rfl
        | cons x l ih=>
          intro j z
          cases j with
          |zero=>rfl
          |succ j=>show _::_=_::_;exact congrArg _ (ih j z)
       rw [eset,eset]at S
       refine iF ⟨_,_,by simp [lX],by simp [lY],fun x hx=>?_,fun x hx=>?_,S,by simp [aa,r0,ae],by simp [aa,r2,ae],by simp [aa,r3,ae]⟩
       . rcases kC hx with rfl|⟨j,_,hx⟩
         . omega
         . exact cX x (Xh hx)
       . rcases kC hx with rfl|⟨j,_,hx⟩
         . omega
         . exact cY x (Xh hx)
     . intro _
       simp only [BS]
       exact iF ⟨X,Y,lX,lY,cX,cY,S,by simp [aa,r0,ae],by simp [aa,r2,ae],by simp [aa,r3,ae]⟩
     . clear S r0 r2 r3 r4 lX lY cX cY X Y f R
       rintro ρ h ⟨X,Y,lX,lY,cX,cY,S,r0,r2,r3⟩
       have w3:aq .i64 (3*(i:Int))=((3*i:Nat):Int):=by rw [wrap64]<;>omega
       have w4:aq .i64 (((3*i:Nat):Int)+1)=((3*i+1:Nat):Int):=by rw [wrap64]<;>omega
       simp only [BS,LB,Nat.reduceLT,Nat.reduceEqDiff,Tryz.FFt811,r0,r3,w3,w4,S.ld (b:=b3) (o:=0) m0 rfl]
       refine step_ret (hU (n:=3*i+1) (a:=a1) S.ok (S.row m2) (hd.mo S.fr (by omega)) (by omega) (by omega)) ?_
       rintro v h ⟨f,many,a2,rfl,hmany,ha2,R⟩
       replace S:=S.call1 (i:=2) rfl f (o':=.row _ _) R
       simp only [LC]at S
       simp only [BS,LB,Nat.reduceLT,Nat.reduceEqDiff,r0]
       refine step_ret (hU (n:=3) (a:=a2) S.ok (S.row m2) (hd.mo S.fr (by omega)) (by omega) (by omega)) ?_
       rintro v h ⟨f,rr,a3,rfl,hrr,ha3,R⟩
       replace S:=S.call1 (i:=2) rfl f (o':=.row _ _) R
       simp only [LC]at S
       simp only [BS,LB,Nat.reduceLT,Nat.reduceEqDiff]
       generalize decide ((0:Int)<(rr:Int))=ring
       refine rG (fun ρ h=> ∃(a:Nat) (vA:Value) (A:List Arc),a<=a3+2*i/\A.length<=i/\(∀x∈A,x.s<i/\x.t<i/\x.w<=2147483647)/\
        St (· =bd) h0 h [(b3,.row [.int .i64 i,vX,vY,vA] 1),(b2,.row [.int .i64 0,.slice none 0 0,.slice none 0 0,.slice none 0 0] 1),(bd,.row [vB,.int .i64 a] 1)] [(vX,1,ints X),(vY,1,ints Y),(vA,3,A.flatMap cy)]/\
        ρ 0=ptrTo bd/\ρ 2=ptrTo b2/\ρ 3=ptrTo b3/\ρ 5=.int .i64 many)
        (fun(j:Nat) ρ h=>j<=i/\ ∃(a:Nat) (vA:Value) (A:List Arc),a<=a3+2*j/\A.length<=j/\(∀x∈A,x.s<i/\x.t<i/\x.w<=2147483647)/\
        St (· =bd) h0 h [(b3,.row [.int .i64 i,vX,vY,vA] 1),(b2,.row [.int .i64 0,.slice none 0 0,.slice none 0 0,.slice none 0 0] 1),(bd,.row [vB,.int .i64 a] 1)] [(vX,1,ints X),(vY,1,ints Y),(vA,3,A.flatMap cy)]/\
        ρ 0=ptrTo bd/\ρ 2=ptrTo b2/\ρ 3=ptrTo b3/\ρ 5=.int .i64 many/\ρ 6=.bool ring/\ρ 7=.int .i64 j) (fun j=>i-j) ?_ ?_ 0 ⟨by omega,a3,_,[],by omega,by simp,by simp,S,by simp [aa,r0,ae],by simp [aa,r2,ae],by simp [aa,r3,ae],by simp [aa],by simp [aa],by simp [aa]⟩
       . clear S r0 r2 r3 f R ih
         intro j ih ρ h ⟨hj,a,vA,A,ha,lA,cA,S,r0,r2,r3,r5,r6,r7⟩
         have flen:(A.flatMap cy).length=A.length*3:=aX gP A
         by_cases hlt:j<i/\ring=true
         . obtain⟨hlt,hring⟩:=hlt
           subst hring
           have w1:aq .i64 ((j:Int)+1)=((j+1:Nat):Int):=by rw [wrap64]<;>omega
           have ci:(i:Int)≠0:=by omega
           have tm:((j+1:Nat):Int).tmod (i:Int)=(((j+1)%i:Nat):Int):=by rw [Xi (by omega)];exact(Int.natCast_emod _ _).symm
           simp only [BS,LB,Nat.reduceLT,Nat.reduceEqDiff,Tryz.FFt811,r3,r6,r7,aP,hlt,S.ld (b:=b3) (o:=0) m0 rfl]
           refine aD (aM rfl) (q:=2048) (ps:=[(6,9),(1,9)]) (by kernel_rfl) ?_
           simp only [BS,LB,cls,Nat.reduceLT,Nat.reduceEqDiff,Nat.reduceAdd,Nat.reducePow,Nat.reduceDiv,Nat.reduceMod,Nat.reduceLeDiff,Tryz.FFt811,r0,r3,r7,w1,nQ ci,tm,S.ld (b:=b3) (o:=0) m0 rfl,S.ld (b:=b3) (o:=3) m0 rfl]
           refine dp (uy (a:=a) S.ok (S.row m2) (hd.mo S.fr (by omega)) (by omega)) ?_
           rintro v h ⟨f,wt,a4,rfl,hwt,ha4,R⟩
           have hl:=S.leaves (c:=b3) m0 f (by omega)
           replace S:=S.call1 (i:=2) rfl f (o':=.row _ _) R
           simp only [LC]at S
           simp only [BS,LB,cls,Nat.reduceLT,Nat.reduceEqDiff,Nat.reduceAdd,Nat.reducePow,Nat.reduceDiv,Nat.reduceMod,Nat.reduceLeDiff,Tryz.FFt811]
           refine dC (cm (by exact Xn) (by exact Xk) (by decide) (by rfl)) S ?_;clear S;intro h bs S n_bs e_bs;simp only [LC,aY,bM,an,Nat.reduceMul,Nat.reduceAdd,zU,zR,zT,zY]at S
           simp only [BS,LB,cls,Nat.reduceLT,Nat.reduceEqDiff,Nat.reduceAdd,Nat.reducePow,Nat.reduceDiv,Nat.reduceMod,Nat.reduceLeDiff]
           refine jK (S.grow (j:=2) (m:=1) (new:=cy ⟨j,(j+1)%i,wt⟩) rfl Xn Xk (by decide) XO (by simp only [aO];rw [S.lds (b:=bs) (o:=0) (n:=1*3) m0 (lbt rfl)];rfl) rfl (by decide) rfl (by rw [flen,gP];omega)) ?_
           clear S
           rintro h vA' S
           simp only [LC]at S
           replace S:=S.drop1
           have fA:Fl vA':=(S.gown _ m2).1.fl
           simp only [BS,LB,cls,Nat.reduceLT,Nat.reduceEqDiff,Nat.reduceAdd,Nat.reducePow,Nat.reduceDiv,Nat.reduceMod,Nat.reduceLeDiff,Tryz.FFt811,r3]
           refine dK (aI S (i:=0) rfl ?_ ?_ ?_ ono) ?_
           . exact(by simp only [Tryz.FFt811])
           . exact(by assumption)
           . exact zN (lbt rfl)
           clear S;rintro h ⟨S,mo⟩;clear mo;simp only [LC,an,lay,zO,zP,Nat.reduceAdd]at S
           simp only [BS,LB,Nat.reduceLT,Nat.reduceEqDiff,Nat.reduceAdd,r7]
           refine⟨by simp only [bH,bO,bg,bV,bD,ne_eq,not_false_eq_true,bU,cu,bJ,bF,cB,dt,aS,Nat.reduceLT,Nat.reduceEqDiff,reduceIte,zZ,r3,ae,aB hl],?_⟩
           simp only [w1]
           have hmod:(j+1)%i<i:=Nat.mod_lt _ (by omega)
           exact ih (j+1) _ _ (by omega) ⟨by omega,a4,vA',A++[⟨j,(j+1)%i,wt⟩],by omega,by simp;omega,
            fun x hx=>(List.mem_append.1 hx).elim (cA x) (fun h=>by simp at h;subst h;exact⟨hlt,hmod,hwt⟩),by rw [Xb];simpa using S,by simp [aa,r0,ae],by simp [aa,r2,ae],by simp [aa,r3,ae],by simp [aa,r5],by simp [aa,r6],by simp [aa]⟩
         . by_cases hji:j<i
           . have hring:ring=false:=by cases ring with
              |false=>rfl
              |true=>exact absurd ⟨hji,rfl⟩ hlt
             subst hring
             simp only [BS,LB,Nat.reduceLT,Nat.reduceEqDiff,Tryz.FFt811,r3,r6,r7,aP,hji,S.ld (b:=b3) (o:=0) m0 rfl]
             exact iF ⟨a,vA,A,by omega,by omega,cA,S,by simp [aa,r0,ae],by simp [aa,r2,ae],by simp [aa,r3,ae],by simp [aa,r5]⟩
           . simp only [BS,LB,Nat.reduceLT,Nat.reduceEqDiff,Tryz.FFt811,r3,r7,aP,hji,S.ld (b:=b3) (o:=0) m0 rfl]
             exact iF ⟨a,vA,A,by omega,by omega,cA,S,by simp [aa,r0,ae],by simp [aa,r2,ae],by simp [aa,r3,ae],by simp [aa,r5]⟩
       . clear S r0 r2 r3 f R ih
         rintro ρ h ⟨a,vA,A,ha,lA,cA,S,r0,r2,r3,r5⟩
         simp only [BS]
         refine rG (fun ρ h=> ∃(a:Nat) (vA:Value) (A:List Arc),A.length<=100/\(∀x∈A,x.s<i/\x.t<i/\x.w<=2147483647)/\
          St (· =bd) h0 h [(b3,.row [.int .i64 i,vX,vY,vA] 1),(b2,.row [.int .i64 0,.slice none 0 0,.slice none 0 0,.slice none 0 0] 1),(bd,.row [vB,.int .i64 a] 1)] [(vX,1,ints X),(vY,1,ints Y),(vA,3,A.flatMap cy)]/\
          ρ 0=ptrTo bd/\ρ 2=ptrTo b2/\ρ 3=ptrTo b3)
          (fun(k:Nat) ρ h=>k<=many/\ ∃(a:Nat) (vA:Value) (A:List Arc),a<=a3+2*i+6*k/\A.length<=i+2*k/\(∀x∈A,x.s<i/\x.t<i/\x.w<=2147483647)/\
          St (· =bd) h0 h [(b3,.row [.int .i64 i,vX,vY,vA] 1),(b2,.row [.int .i64 0,.slice none 0 0,.slice none 0 0,.slice none 0 0] 1),(bd,.row [vB,.int .i64 a] 1)] [(vX,1,ints X),(vY,1,ints Y),(vA,3,A.flatMap cy)]/\
          ρ 0=ptrTo bd/\ρ 2=ptrTo b2/\ρ 3=ptrTo b3/\ρ 5=.int .i64 many/\ρ 8=.int .i64 k) (fun k=>many-k) ?_ ?_ 0 ⟨by omega,a,vA,A,by omega,by omega,cA,S,by simp [aa,r0,ae],by simp [aa,r2,ae],by simp [aa,r3,ae],by simp [aa,r5],by simp [aa]⟩
         . clear S r0 r2 r3 r5 ha lA cA a vA A
           intro k ih ρ h ⟨hk,a,vA,A,ha,lA,cA,S,r0,r2,r3,r5,r8⟩
           have flen:(A.flatMap cy).length=A.length*3:=aX gP A
           by_cases hlt:k<many
           . simp only [BS,LB,Nat.reduceLT,Nat.reduceEqDiff,r5,r8,aP,hlt]
             refine aD (nU (ord:=[11,0,1,2,3,4,5,6,7,8,9,10,12]) rfl rfl (by simp only [gk,reix,fZ,XB,XC,List.map_toArray,Xw,XM,Nat.reduceBEq,cond_true,cond_false];exact rfl)) (q:=1) (ps:=[(0,10),(0,8),(4,7),(0,4)]) (by kernel_rfl) ?_
             simp only [BS,LB,cls,Nat.reducePow,Nat.reduceDiv,Nat.reduceMod,Nat.reduceLeDiff,Tryz.FFt811]
             refine dC aF S ?_;clear S;intro h b9 S n_b9 e_b9
             simp only [BS,LB,cls,Nat.reduceLT,Nat.reduceEqDiff,Nat.reduceAdd,Nat.reducePow,Nat.reduceDiv,Nat.reduceMod,Nat.reduceLeDiff,Tryz.FFt811,r0,r3,S.ld (b:=b3) (o:=0) m1 rfl]
             refine dp (hU (n:=i) (a:=a) S.ok (S.row m3) (hd.mo S.fr (by omega)) (by omega) (by omega)) ?_
             rintro v h ⟨f,s1,a4,rfl,hs1,ha4,R⟩
             have hl0:=S.leaves (c:=b9) m0 f (by omega)
             have hl4:=S.leaves (c:=b3) m1 f (by omega)
             replace S:=S.call1 (i:=3) rfl f (o':=.row _ _) R
             simp only [LC]at S
             simp only [BS,LB,cls,Nat.reduceLT,Nat.reduceEqDiff,Nat.reduceAdd,Nat.reducePow,Nat.reduceDiv,Nat.reduceMod,Nat.reduceLeDiff,Tryz.FFt811,r0,r3,S.ld (b:=b3) (o:=0) m1 rfl]
             refine dp (hU (n:=i) (a:=a4) S.ok (S.row m3) (hd.mo S.fr (by omega)) (by omega) (by omega)) ?_
             rintro v h ⟨f,s2,a5,rfl,hs2,ha5,R⟩
             have hl1:=S.leaves (c:=b9) m0 f (by omega)
             have hl2:=S.leaves (c:=b3) m1 f (by omega)
             replace S:=S.call1 (i:=3) rfl f (o':=.row _ _) R
             simp only [LC]at S
             simp only [BS,LB,cls,Nat.reduceLT,Nat.reduceEqDiff,Nat.reduceAdd,Nat.reducePow,Nat.reduceDiv,Nat.reduceMod,Nat.reduceLeDiff,r0]
             refine dp (uy (a:=a5) S.ok (S.row m3) (hd.mo S.fr (by omega)) (by omega)) ?_
             rintro v h ⟨f,wt,a6,rfl,hwt,ha6,R⟩
             have hl3:=S.leaves (c:=b9) m0 f (by omega)
             replace S:=S.call1 (i:=3) rfl f (o':=.row _ _) R
             simp only [LC]at S
             simp only [BS,LB,cls,Nat.reduceLT,Nat.reduceEqDiff,Nat.reduceAdd,Nat.reducePow,Nat.reduceDiv,Nat.reduceMod,Nat.reduceLeDiff,Tryz.FFt811]
             refine dK (S.store (i:=0) rfl ?_ ?_ rfl rfl ?_ ono) ?_
             . exact(by exact Xr)
             . exact(by intro x e;cases e)
             . exact lbt rfl
             clear S;rintro h ⟨S,mo⟩;clear mo;simp only [LC,an,lay,zO,zP,Nat.reduceAdd]at S
             simp only [BS,LB,Nat.reduceLT,Nat.reduceEqDiff,Nat.reduceAdd,Tryz.FFt811,r3]
             refine⟨by simp only [bH,bO,bg,bV,bD,ne_eq,not_false_eq_true,bU,cu,bJ,bF,cB,dt,aS,Nat.reduceLT,Nat.reduceEqDiff,reduceIte,zZ,r3,ae,<-e_b9,aB hl0,aB hl1,aB hl2,aB hl3,aG hl4],?_⟩
             simp only [BS,LB,Nat.reduceLT,Nat.reduceEqDiff,Tryz.FFt811,S.ld (b:=b3) (o:=3) m1 rfl,S.lds (b:=b9) (o:=0) (n:=3) m0 (lbt rfl)]
             refine ag (cm (by exact Xn) (by exact Xk) (by decide) (by rfl)) S ?_;clear S;intro h bs S n_bs;simp only [LC,aY,bM,an,Nat.reduceMul,Nat.reduceAdd,zU,zR,zT,zY]at S
             simp only [BS,LB,Nat.reduceLT,Nat.reduceEqDiff]
             refine fL (S.grow (j:=2) (m:=1) (new:=cy ⟨s1,s2,wt⟩) rfl Xn Xk (by decide) XO (by simp only [aO];rw [S.lds (b:=bs) (o:=0) (n:=1*3) m0 (lbt rfl)];rfl) rfl (by decide) rfl (by rw [flen,gP];omega)) ?_
             clear S
             rintro h vA' S
             simp only [LC]at S
             replace S:=S.drop1
             have fA:Fl vA':=(S.gown _ m2).1.fl
             simp only [BS,LB,Nat.reduceLT,Nat.reduceEqDiff,Tryz.FFt811,r3]
             refine aC (aI S (i:=1) rfl ?_ ?_ ?_ ono) ?_
             . exact(by simp only [Tryz.FFt811])
             . exact(by assumption)
             . exact zN (lbt rfl)
             clear S;rintro h ⟨S,mo⟩;clear mo;simp only [LC,an,lay,zO,zP,Nat.reduceAdd]at S
             simp only [BS,LB,Nat.reduceLT,Nat.reduceEqDiff,r0]
             refine step_ret (hU (n:=4) (a:=a6) S.ok (S.row m3) (hd.mo S.fr (by omega)) (by omega) (by omega)) ?_
             rintro v h ⟨f,r9,a7,rfl,hr9,ha7,R⟩
             replace S:=S.call1 (i:=3) rfl f (o':=.row _ _) R
             simp only [LC]at S
             have w8:aq .i64 ((k:Int)+1)=((k+1:Nat):Int):=by rw [wrap64]<;>omega
             have flen':(A.flatMap cy++cy ⟨s1,s2,wt⟩).length=A.length*3+3:=by rw [Xd,flen,gP]
             have cA': ∀x∈A++[(⟨s1,s2,wt⟩:Arc)],x.s<i/\x.t<i/\x.w<=2147483647:=fun x hx=>(List.mem_append.1 hx).elim (cA x) (fun h=>by simp at h;subst h;exact⟨hs1,hs2,hwt⟩)
             by_cases hz:(r9:Int)=0
             . simp only [BS,LB,Nat.reduceLT,Nat.reduceEqDiff,Nat.reduceAdd,Tryz.FFt811,r3,hz,S.ld (b:=b3) (o:=3) m1 rfl,S.ld (b:=b9) (o:=0) m0 rfl,S.ld (b:=b9) (o:=1) m0 rfl,S.ld (b:=b9) (o:=2) m0 rfl]
               refine ag (cm (by exact Xn) (by exact Xk) (by decide) (by rfl)) S ?_;clear S;intro h bs S n_bs;simp only [LC,aY,bM,an,Nat.reduceMul,Nat.reduceAdd,zU,zR,zT,zY]at S
               simp only [BS,LB,Nat.reduceLT,Nat.reduceEqDiff]
               refine fL (S.grow (j:=2) (m:=1) (new:=cy ⟨s2,s1,wt⟩) rfl Xn Xk (by decide) XO (by simp only [aO];rw [S.lds (b:=bs) (o:=0) (n:=1*3) m0 (lbt rfl)];rfl) rfl (by decide) rfl (by rw [flen',gP];omega)) ?_
               clear S
               rintro h vA2 S
               simp only [LC]at S
               replace S:=S.drop1
               have fA:Fl vA2:=(S.gown _ m2).1.fl
               simp only [BS,LB,Nat.reduceLT,Nat.reduceEqDiff,Tryz.FFt811,r3]
               refine aC (aI S (i:=1) rfl ?_ ?_ ?_ ono) ?_
               . exact(by simp only [Tryz.FFt811])
               . exact(by assumption)
               . exact zN (lbt rfl)
               clear S;rintro h ⟨S,mo⟩;clear mo;simp only [LC,an,lay,zO,zP,Nat.reduceAdd]at S
               simp only [BS,LB,Nat.reduceLT,Nat.reduceEqDiff,r8,w8]
               replace S:=S.drop1
               exact ih (k+1) _ _ (by omega) ⟨by omega,a7,vA2,A++[⟨s1,s2,wt⟩]++[⟨s2,s1,wt⟩],by omega,by simp;omega,
                fun x hx=>(List.mem_append.1 hx).elim (cA' x) (fun h=>by simp at h;subst h;exact⟨hs2,hs1,hwt⟩),by rw [Xb,Xb];simpa using S,by simp [aa,r0,ae],by simp [aa,r2,ae],by simp [aa,r3,ae],by simp [aa,r5],by simp [aa]⟩
             . simp only [BS,LB,Nat.reduceLT,Nat.reduceEqDiff,r8,hz,w8]
               replace S:=S.drop1
               exact ih (k+1) _ _ (by omega) ⟨by omega,a7,vA',A++[⟨s1,s2,wt⟩],by omega,by simp;omega,
                cA',by rw [Xb];simpa using S,by simp [aa,r0,ae],by simp [aa,r2,ae],by simp [aa,r3,ae],by simp [aa,r5],by simp [aa]⟩
           . simp only [BS,LB,Nat.reduceLT,Nat.reduceEqDiff,r5,r8,aP,hlt]
             exact iF ⟨a,vA,A,by omega,cA,S,by simp [aa,r0,ae],by simp [aa,r2,ae],by simp [aa,r3,ae]⟩
         . clear S r0 r2 r3 r5 ha lA cA a vA A
           rintro ρ h ⟨a,vA,A,lA,cA,S,r0,r2,r3⟩
           simp only [BS,LB,Nat.reduceLT,Nat.reduceEqDiff,Tryz.FFt811,r2,r3,S.lds (b:=b3) (o:=0) (n:=4) m0 (lbt rfl)]
           have fX:Fl vX:=(S.gown _ m0).1.fl
           have fY:Fl vY:=(S.gown _ m1).1.fl
           have fA:Fl vA:=(S.gown _ m2).1.fl
           refine aC (S.store (i:=1) rfl XP (by intro x e;cases e) rfl (by simp only [an,zO,zP,List.all_cons,List.all_nil,fX.2.1,fY.2.1,fA.2.1,zZ];rfl) (lbt rfl) ono) ?_
           clear S;rintro h ⟨S,_⟩
           simp only [LC,an,lay,zO,zP,Nat.reduceAdd]at S
           simp only [BS,ac]
           refine⟨_,qP (by decide) (by simp only [aS,r2,ae,Nat.reduceEqDiff,reduceIte];exact cw Tryz.a31 XP (S.lds (b:=b2) (o:=0) (n:=4) m1 (lbt rfl))),?_⟩
           have blk: ∀p∈[(vX,1,ints X),(vY,1,ints Y),(vA,3,A.flatMap cy)],∀c,av p.1 c->h0.n<=c:=by
            intro p hp c hc
            obtain⟨h1,h2⟩:=S.gblk hp hc
            rcases h1 with h1|h1
            . exact h1
            . exact absurd (by simp [h1]) h2
           refine⟨S.fr,⟨i,X,Y,A⟩,vX,vY,vA,rfl,⟨show 1<=i by omega,show i<=12 by omega,lX,lY,cX,cY,lA,cA⟩,show i=_ by omega,⟨(S.gown _ m0).1.sl rfl (fun _=>rfl) (by decide),(S.gown _ m1).1.sl rfl (fun _=>rfl) (by decide),(S.gown _ m2).1.sl rfl (fun _=>rfl) (by decide)⟩,?_⟩
           rintro c (hc|hc|hc)
           . exact blk _ m0 c hc
           . exact blk _ m1 c hc
           . exact blk _ m2 c hc
 . exact⟨by omega,a0,_,_,[],[],by omega,rfl,rfl,by simp,by simp,S,by simp [aa,cD,ae],by simp [aa,ae],by simp [aa,ae],by simp [aa]⟩
def Tryz.FFt934:=aj Z1<|aj Z2<|aj Z0<|aj Z5<|aj Z13<|aj Z6<|Z8
theorem aw{h h':Hp}{b:Nat}(g:Gr h h')(hb:b<h.n):leaves h h' b=true:=re (g.get b hb)
theorem own_ok{h0:Hp}(ok:h0.t.Sized h0.n){γ:Gra}(hγ:Good γ){vx vy va:Value}(ga:cU h0 vx vy va γ):
 Ret zM 34 [fW γ vx vy va] h0 fun v h'=>Gr h0 h'/\ ∃vx vy va,v=fW γ vx vy va/\cU h' vx vy va γ/\(∀c,av vx c\/av vy c\/av va c->h0.n<=c)/\WrK h' 3 cy va γ.arcs/\ ∀c,av va c-> ¬av vx c/\ ¬av vy c:=by
 have S:=Si ok
 have lX:=hγ.lX
 have lY:=hγ.lY
 have n2:=hγ.n2
 have many:=hγ.many
 refine ab (n:=16) (rs:=[.cell 2 31]) rfl Tryz.e34 rfl rfl rfl (lbt rfl) ?_
 simp only [BS,Nat.reduceLT,fW]
 refine ag (aZ (by intro x e;cases e)) S ?_;clear S;intro h b S n_b;simp only [an]at S
 simp only [BS,Tryz.FFt934]
 refine ag aF S ?_;clear S;intro h b2 S n_b2
 simp only [BS]
 refine aD (aM rfl) (q:=0) (ps:=[(5,7),(2,7),(2,4)]) (by kernel_rfl) ?_
 simp only [BS,LB,cls,Nat.reduceLT,Nat.reduceEqDiff,Nat.reduceAdd,Nat.reducePow,Nat.reduceDiv,Nat.reduceMod,Nat.reduceLeDiff,Tryz.FFt934,S.ld (b:=b) (o:=1) m1 rfl]
 refine dp (sj S.ok (ga.X.gr S.gr) (by omega)) ?_
 have k1:=S.fr.n
 rintro v1 h ⟨g,s1,q1⟩
 have e1:=aw g ((S.row (b:=b) m1).lt S.ok)
 have a1: ∀c,av v1 c-> ¬c=b:=fun c hc e=>by have:=q1 c hc;have:=(S.row (b:=b) m1).lt S.ok;omega
 have b1': ∀c,av v1 c-> ¬c=b2:=fun c hc e=>by have:=q1 c hc;have:=(S.row (b:=b2) m0).lt S.ok;omega
 replace S:=S.call g
 simp only [BS,LB,cls,Nat.reduceLT,Nat.reduceEqDiff,Nat.reduceAdd,Nat.reducePow,Nat.reduceDiv,Nat.reduceMod,Nat.reduceLeDiff,Tryz.FFt934,S.ld (b:=b) (o:=2) m1 rfl]
 refine dp (sj S.ok (ga.Y.gr S.gr) (by omega)) ?_
 have k2:=S.fr.n
 rintro v2 h ⟨g,s2,q2⟩
 have e2:=aw g ((S.row (b:=b) m1).lt S.ok)
 have a2: ∀c,av v2 c-> ¬c=b:=fun c hc e=>by have:=q2 c hc;have:=(S.row (b:=b) m1).lt S.ok;omega
 have b2': ∀c,av v2 c-> ¬c=b2:=fun c hc e=>by have:=q2 c hc;have:=(S.row (b:=b2) m0).lt S.ok;omega
 replace S:=S.call g
 replace s1:=s1.gr g
 simp only [BS,LB,cls,Nat.reduceLT,Nat.reduceEqDiff,Nat.reduceAdd,Nat.reducePow,Nat.reduceDiv,Nat.reduceMod,Nat.reduceLeDiff,Tryz.FFt934,S.ld (b:=b) (o:=3) m1 rfl]
 refine dp (yB S.ok (ga.A.gr S.gr) (by omega)) ?_
 have k3:=S.fr.n
 rintro v3 h ⟨g,s3,q3,w3⟩
 have d3: ∀c,av v3 c-> ¬av v1 c/\ ¬av v2 c:=fun c hc=>⟨fun h=>by have:=q3 c hc;have:=s1.lt S.ok h;omega,fun h=>by have:=q3 c hc;have:=s2.lt S.ok h;omega⟩
 have e3:=aw g ((S.row (b:=b) m1).lt S.ok)
 have a3: ∀c,av v3 c-> ¬c=b:=fun c hc e=>by have:=q3 c hc;have:=(S.row (b:=b) m1).lt S.ok;omega
 have b3': ∀c,av v3 c-> ¬c=b2:=fun c hc e=>by have:=q3 c hc;have:=(S.row (b:=b2) m0).lt S.ok;omega
 replace S:=S.call g
 replace s1:=s1.gr g
 replace s2:=s2.gr g
 have z: ∀c,av v1 c\/av v2 c\/av v3 c->h0.n<=c:=fun c hc=>by
  rcases hc with h|h|h
  . exact zV k1 (q1 c h)
  . exact zV k2 (q2 c h)
  . exact zV k3 (q3 c h)
 have f1:=s1.fl
 have f2:=s2.fl
 have f3:=s3.fl
 simp only [BS,LB,cls,Nat.reduceLT,Nat.reduceEqDiff,Nat.reduceAdd,Nat.reducePow,Nat.reduceDiv,Nat.reduceMod,Nat.reduceLeDiff,Tryz.FFt934]
 refine dK (aI S (i:=1) rfl ?_ ?_ ?_ ono) ?_
 . exact(by simp only [Tryz.FFt934])
 . exact(by assumption)
 . exact zN (lbt rfl)
 clear S;rintro h ⟨S,mo⟩;replace s1:=s1.mo mo a1;replace s2:=s2.mo mo a2;replace s3:=s3.mo mo a3;replace w3:=w3.mo mo a3;clear mo;simp only [LC,an,lay,zO,zP,Nat.reduceAdd]at S
 simp only [BS,LB,cls,Nat.reduceLT,Nat.reduceEqDiff,Nat.reduceAdd,Nat.reducePow,Nat.reduceDiv,Nat.reduceMod,Nat.reduceLeDiff,Tryz.FFt934]
 refine dK (aI S (i:=1) rfl ?_ ?_ ?_ ono) ?_
 . exact(by simp only [Tryz.FFt934])
 . exact(by assumption)
 . exact zN (lbt rfl)
 clear S;rintro h ⟨S,mo⟩;replace s1:=s1.mo mo a1;replace s2:=s2.mo mo a2;replace s3:=s3.mo mo a3;replace w3:=w3.mo mo a3;clear mo;simp only [LC,an,lay,zO,zP,Nat.reduceAdd]at S
 simp only [BS,LB,cls,Nat.reduceLT,Nat.reduceEqDiff,Nat.reduceAdd,Nat.reducePow,Nat.reduceDiv,Nat.reduceMod,Nat.reduceLeDiff,Tryz.FFt934]
 refine dK (aI S (i:=1) rfl ?_ ?_ ?_ ono) ?_
 . exact(by simp only [Tryz.FFt934])
 . exact(by assumption)
 . exact zN (lbt rfl)
 clear S;rintro h ⟨S,mo⟩;replace s1:=s1.mo mo a1;replace s2:=s2.mo mo a2;replace s3:=s3.mo mo a3;replace w3:=w3.mo mo a3;clear mo;simp only [LC,an,lay,zO,zP,Nat.reduceAdd]at S
 simp only [BS,LB,Nat.reduceLT,Nat.reduceEqDiff,Nat.reduceAdd,Tryz.FFt934]
 refine⟨by simp only [bH,bO,bg,bV,bD,ne_eq,not_false_eq_true,bU,cu,bJ,bF,cB,dt,aS,Nat.reduceLT,Nat.reduceEqDiff,reduceIte,zZ,bn,ae,aB e1,aB e2,aB e3,aG e1,aG e2,aG e3],?_⟩
 simp only [BS,LB,Nat.reduceLT,Nat.reduceEqDiff,S.lds (b:=b) (o:=0) (n:=4) m1 (lbt rfl)]
 refine aC (S.store (i:=0) rfl XP (by intro x e;cases e) rfl (by simp only [an,zO,zP,List.all_cons,List.all_nil,f1.2.1,f2.2.1,f3.2.1,zZ];rfl) (lbt rfl) ono) ?_
 clear S
 rintro h' ⟨S,g2⟩
 simp only [LC,an,lay,zO,zP,Nat.reduceAdd]at S
 simp only [BS,ac]
 refine⟨_,qP (by decide) (by simp only [aS,ae,Nat.reduceEqDiff,reduceIte];exact cw Tryz.a31 XP (S.lds (b:=b2) (o:=0) (n:=4) m0 (lbt rfl))),?_⟩
 exact⟨S.gr,v1,v2,v3,rfl,⟨s1.mo g2 b1',s2.mo g2 b2',s3.mo g2 b3'⟩,z,w3.mo g2 b3',d3⟩
def Tryz.FFt1069:=aj Z1<|aj Z2<|aj Z0<|Z8
def Tryz.FFt1070:=aj Z1<|aj Z2<|aj Z0<|Z8
def Tryz.FFt1068:=aj Z1<|aj Z2<|aj Z0<|aj Z3<|aj Z7<|aj Z9<|aj Z14<|aj Z17<|aj Z19<|aj Z27<|aj Z40<|aj Z29<|aj Z37<|aj Z41<|aj Z47<|aj Z53<|aj Z39<|aj Z67<|aj Z65<|aj Z36<|aj Z5<|aj Z13<|aj Z6<|aj Z4<|aj Z8<|aj Z12<|aj Z26<|aj Z54<|aj Z55<|aj Z56<|aj Z48<|aj Z57<|aj Z58<|aj Z59<|aj Z60<|aj Z61<|aj Z62<|Z46
theorem slice_at{E:Env}{t e:TypeId}{b k len cap l m:Nat}{kd1 kd2 kd3:IntKind}(hu:E.und t=some (.slice e))(hs:E.sz e=some k)(hlm:l<=m)(hm:m<=cap):
 dQ E t (.slice (some ⟨b,0,none⟩) len cap) (some (.int kd1 (l:Int))) (some (.int kd2 (l:Int))) (some (.int kd3 (m:Int)))=some (.slice (some ⟨b,if m=l then 0 else l*k,none⟩) 0 (m-l)):=by
 have nat: ∀n:Nat,fU (n:Int)=some n:=fun n=>rfl
 simp only [dQ,hu,eg,dW,nat,Xe hm,Xe hlm,Xe (Xt l),cond_true,hs,Nat.sub_self,Option.map]
 by_cases h:m=l
 . subst h;rw [Nat.beq_refl];simp
 . have:Nat.beq m l=false:=by
    cases hb:Nat.beq m l with
    |false=>rfl
    |true=>exact absurd (Nat.eq_of_beq_eq_true hb) h
   rw [this,if_neg h];simp [eH]
theorem St.fill{M:Nat->Prop}{h0 h:Hp}{L:List (Nat×Ob)}{G:List GL}(S:St M h0 h L G){E:Env}{t tx e:TypeId}{by_ i b off len cap md:Nat}{zs l:List Value}{s:Option Nat}{x v:Value}(hi:L[i]? =some (b,.row l md))(hu:E.und t=some (.slice e))(he:eB E e by_ 1 zs)
 (hx:az E tx=some false) (hsrc:aO h 1 x=some (1,[v])) (hv:Fl v) (hc:len<cap) (ho:off+len<l.length) (hmd:md≠0) {ts:List TypeId}:
 ∃h',cL E h (t::tx::ts) (.slice (some ⟨b,off,s⟩) len cap) x=some (h',.slice (some ⟨b,off,s⟩) (len+1) cap)/\St M h0 h' (L.set i (b,.row (l.set (off+len) v) md)) G/\Mo (· =b) h h':=by
 obtain⟨⟨i',hi',rfl,hsz⟩,hz,hl2⟩:=he
 have hr:=S.row (Xh hi)
 obtain⟨y,h1,h2⟩:=hr.store S.ok hmd (o:=off+len) (vs:=[v]) (by simp;omega) (by simp [hv.2.1])
 have e:lay l (off+len) [v]=l.set (off+len) v:=by
  refine List.ext_getElem? fun j=>?_
  rw [iW (by simp;omega),List.getElem?_set]
  simp only [List.length_cons,XD]
  by_cases hj:off+len=j
  . subst hj;rw [if_pos ⟨Xt _,by omega⟩,if_pos rfl,if_pos ho];simp
  . rw [if_neg (by omega),if_neg hj]
 rw [e]at h2
 refine⟨h.put b y,?_,S.put hi h2,(Mo.refl (M:=(· =b)) S.ok).put (.inr rfl) y⟩
 simp only [cL,hx,iX,hu,hi',hsz,hsrc]
 unfold eJ
 rw [Xe (by omega:len+1<=cap)]
 simp only [cond_true,hsz,zT,h1]
theorem note_runq{ρ:Operand->Value}{f:Operand}{xs:Array Operand}{ts:Array TypeId}{h h':Hp}:cb ρ true (.call ⟨.value f,xs,ts⟩) h h'=none:=rfl
theorem ui{i:Nat}:bQ i []=none:=rfl
theorem pair_n{x:Option Tch}:iT none x=true:=rfl
def KeyF(E:Env)(g:FuncId)(f:Arc->Nat):Prop:= ∀(h:Hp) (a:Arc),h.t.Sized h.n->bK E g [.agg ⟨cy a⟩] h (.int .i64 (f a))
theorem of2_key:KeyF zM 69 Arc.s:=by
 intro h0 a ok
 have S:=Si ok
 refine ab (n:=5) (rs:=[.tmp 2]) rfl Tryz.e69 rfl rfl rfl (lbt rfl) ?_
 simp only [BS,Nat.reduceLT,cy]
 refine ag (aZ (by intro x e;cases e)) S ?_;clear S;intro h b S n_b;simp only [an]at S
 simp only [BS,LB,ac,Nat.reduceLT,Nat.reduceEqDiff,Tryz.FFt1069,S.ld (b:=b) (o:=0) m0 rfl]
 exact S.gr
theorem of3_key:KeyF zM 70 Arc.t:=by
 intro h0 a ok
 have S:=Si ok
 refine ab (n:=5) (rs:=[.tmp 2]) rfl Tryz.e70 rfl rfl rfl (lbt rfl) ?_
 simp only [BS,Nat.reduceLT,cy]
 refine ag (aZ (by intro x e;cases e)) S ?_;clear S;intro h b S n_b;simp only [an]at S
 simp only [BS,LB,ac,Nat.reduceLT,Nat.reduceEqDiff,Tryz.FFt1070,S.ld (b:=b) (o:=1) m0 rfl]
 exact S.gr
theorem jY(A:List Arc)(f:Arc->Nat)(j v:Nat):(outs A f j v).length<=j:=by
 unfold outs
 exact zV (List.length_filter_le _ _) (by simp)
theorem tX(z:Value)(N:Nat):aY [z] ((N:Int)).toNat=(zQ N).map fun _=>z:=by
 rw [Xm]
 have: ∀n,aY [z] n=List.replicate n z:=by
  intro n
  induction n with
  |zero=>rfl
  |succ n ih=>simp [aY,ih,List.replicate_succ]
 rw [this,List.map_const',List.length_range]
def kY(A:List Arc)(f:Arc->Nat)(i v:Nat):Value:=.int .i64 ((outs A f i v).length:Nat)
def gJ(A:List Arc)(f:Arc->Nat)(b v n:Nat):Value:=.slice (some ⟨b,if(outs A f A.length v).length=0 then 0 else start A f v,none⟩) n (outs A f A.length v).length
theorem cnt_set{A:List Arc}{f:Arc->Nat}{N i:Nat}(hi:i<A.length):((zQ N).map (kY A f i)).set (f A[i]) (.int .i64 (((outs A f i (f A[i])).length+1:Nat):Int))=(zQ N).map (kY A f (i+1)):=by
 have hd:A.getD i default=A[i]:=by simp [zS,hi]
 have e:(.int .i64 (((outs A f i (f A[i])).length+1:Nat):Int):Value)=kY A f (i+1) (f A[i]):=by
  unfold kY;rw [ia,hd,if_pos rfl,Xd];rfl
 rw [e]
 refine j5 fun v hv hne=>?_
 unfold kY
 rw [ia,hd,if_neg (fun e=>hne e.symm),Xc]
def sQ(A:List Arc)(f:Arc->Nat)(N i:Nat)(cs:List Value):Prop:=
 cs.length=A.length/\ ∀v r x,v<N->(outs A f i v)[r]? =some x->cs[start A f v+r]? =some (.int .i64 (x:Nat))
theorem fill_zero{A:List Arc}{f:Arc->Nat}{N:Nat}:sQ A f N 0 ((zQ A.length).map fun _=>.int .i64 0):=
 ⟨by simp,fun v r x _ h=>by simp [outs]at h⟩
theorem fill_step{A:List Arc}{f:Arc->Nat}{N i:Nat}{cs:List Value}(h:sQ A f N i cs)(hi:i<A.length):sQ A f N (i+1) (cs.set (start A f (f A[i])+(outs A f i (f A[i])).length) (.int .i64 (i:Nat))):=by
 have hd:A.getD i default=A[i]:=by simp [zS,hi]
 have hl:(outs A f (i+1) (f A[i])).length<=(outs A f A.length (f A[i])).length:=tT A f (by omega) _
 rw [ia,hd,if_pos rfl,Xd]at hl
 have hlt:(outs A f i (f A[i])).length<(outs A f A.length (f A[i])).length:=by simp at hl;omega
 have top:=oa A f (f A[i])
 refine⟨by rw [Xj];exact h.1,fun v r x hv hx=>?_⟩
 have hr:r<(outs A f (i+1) v).length:=(List.getElem?_eq_some_iff.1 hx).1
 have hr2:r<(outs A f A.length v).length:=Nat.lt_of_lt_of_le hr (tT A f (by omega) v)
 rw [List.getElem?_set]
 by_cases e:start A f (f A[i])+(outs A f i (f A[i])).length=start A f v+r
 . obtain⟨e1,e2⟩:=yu A f hlt hr2 e
   subst e1
   rw [if_pos e,if_pos (by rw [h.1];omega)]
   rw [ia,hd,if_pos rfl,XI,if_neg (by omega),e2,Nat.sub_self]at hx
   simp at hx
   rw [hx]
 . rw [if_neg e]
   refine h.2 v r x hv ?_
   rw [ia,hd]at hx
   by_cases e1:f A[i]=v
   . rw [if_pos e1,XI]at hx
     subst e1
     by_cases h3:r<(outs A f i (f A[i])).length
     . rw [if_pos h3]at hx;exact hx
     . rw [if_neg h3]at hx
       have:=(List.getElem?_eq_some_iff.1 hx).1
       simp at this
       exact absurd (by omega) e
   . rw [if_neg e1,Xc]at hx;exact hx
theorem of1_ok {h0:Hp} (ok:h0.t.Sized h0.n) {γ:Gra} (hγ:Good γ) {vx vy va:Value} {b:Nat} (hb:Row h0 b [.int .i64 γ.nodes,vx,vy,va] 1) (ga:cU h0 vx vy va γ) {g:FuncId} {f:Arc->Nat} (hk:KeyF zM g f) (hf: ∀a∈γ.arcs,f a<γ.nodes):
 Ret zM 68 [.func (.func g) #[] #[],ptrTo b] h0 fun v h'=>Gr h0 h'/\fO h' h0.n v γ.nodes (outs γ.arcs f γ.arcs.length):=by
 have S:=Si ok
 have n2:=hγ.n2
 have many:=hγ.many
 obtain⟨N,X,Y,A⟩:=γ
 simp only []at hb n2 many hf
 have gA:aA h0 3 cy va A:=ga.A
 have l0:=hb.load1 (o:=0) rfl
 have l3:=hb.load1 (o:=3) rfl
 refine ab (n:=85) (rs:=[.tmp 3]) rfl Tryz.e68 rfl rfl rfl (lbt rfl) ?_
 simp only [BS,LB,Nat.reduceLT,Nat.reduceEqDiff,Tryz.FFt1068,l0]
 refine ag (oV (by exact Xo) (by exact Xs) (by omega) (by omega)) S ?_;clear S;intro h bm S n_bm
 rw [tX]at S
 replace S:St NoM h0 h [(bm,.row ((zQ N).map (kY A f 0)) 1)] []:=S
 simp only [BS,LB,Nat.reduceLT,Nat.reduceEqDiff,Tryz.FFt1068,S.old l3 (fun h=>h),gA.lenq,Xm]
 refine bA (fun(i:Nat) ρ h=>i<=A.length/\St NoM h0 h [(bm,.row ((zQ N).map (kY A f i)) 1)] []/\ρ 0=.func (.func g) #[] #[]/\ρ 1=ptrTo b/\ρ 4=.slice (some ⟨bm,0,none⟩) N N/\ρ 18=va/\ρ 19=.int .i64 A.length/\ρ 20=.int .i64 i) (fun i=>A.length-i) ?_ 0 _ _ ?_
 . clear S
   intro i ih ρ h ⟨hi,S,r0,r1,r4,r18,r19,r20⟩
   by_cases hlt:i<A.length
   . obtain⟨c,o,hidx,hld⟩:=(gA.gr S.gr).ix (kd:=.i64) gP hlt
     have hfi:f A[i]<N:=hf _ (Xa hlt)
     have hol:=jY A f i (f A[i])
     have w:aq .i64 ((i:Int)+1)=((i+1:Nat):Int):=by rw [wrap64]<;>omega
     have w2:aq .i64 (((outs A f i (f A[i])).length:Int)+1)=(((outs A f i (f A[i])).length+1:Nat):Int):=by rw [wrap64]<;>omega
     simp only [BS,LB,Nat.reduceLT,Nat.reduceEqDiff,Tryz.FFt1068,r18,r19,r20,aP,hlt,hidx,hld]
     refine ag aF S ?_;clear S;intro h b6 S n_b6
     simp only [BS,LB,Nat.reduceLT,Nat.reduceEqDiff,cy]
     refine aC (S.store (i:=0) rfl ?_ ?_ rfl rfl ?_ ono) ?_
     . exact(by exact Xr)
     . exact(by intro x e;cases e)
     . exact lbt rfl
     clear S;rintro h ⟨S,mo⟩;clear mo;simp only [LC,an,lay,zO,zP,Nat.reduceAdd]at S
     simp only [BS,LB,Nat.reduceLT,Nat.reduceEqDiff,Tryz.FFt1068,r0,r4,S.lds (b:=b6) (o:=0) (n:=3) m0 (lbt rfl)]
     refine au (hk _ A[i] S.ok) ?_;intro h g;replace S:=S.call g;clear g
     have lm:=S.ld (b:=bm) (o:=f A[i]) m1 (jE (F:=kY A f i) hfi)
     unfold kY at lm
     simp only [BS,LB,Nat.reduceLT,Nat.reduceEqDiff,Tryz.FFt1068,hfi,lm,w2]
     refine aC (aI S (i:=1) rfl Tryz.s3 bG (by simpa using hfi) ono) ?_
     clear S lm;rintro h ⟨S,mo⟩;clear mo
     simp only [LC]at S
     rw [cnt_set hlt]at S
     replace S:=S.drop1
     simp only [BS,LB,Nat.reduceLT,Nat.reduceEqDiff,r20,w]
     exact ih (i+1) _ _ (by omega) ⟨by omega,S,by simp [aa,r0],by simp [aa,r1,ae],by simp [aa,r4],by simp [aa,r18],by simp [aa,r19],by simp [aa]⟩
   . have hiN : i=A.length:=by omega
     subst hiN
     simp only [BS,LB,Nat.reduceLT,r19,r20,aP,hlt]
     refine aD (aM rfl) (q:=72) (ps:=[]) (by kernel_rfl) ?_
     simp only [BS,LB,cls,Nat.reduceLT,Nat.reduceEqDiff,Nat.reduceAdd,Nat.reducePow,Nat.reduceDiv,Nat.reduceMod,Nat.reduceLeDiff,Tryz.FFt1068,r1,S.old l3 (fun h=>h),gA.lenq]
     refine dC (oV (by exact Xo) (by exact Xs) (by omega) (by omega)) S ?_;clear S;intro h ba S n_ba e_ba
     rw [tX]at S
     simp only [BS,LB,cls,Nat.reduceLT,Nat.reduceEqDiff,Nat.reduceAdd,Nat.reducePow,Nat.reduceDiv,Nat.reduceMod,Nat.reduceLeDiff,Tryz.FFt1068,r1,S.old l0 (fun h=>h),Xm]
     refine dC (oV (by exact Tryz.u149) (by exact Tryz.e33E) (by omega) (by omega)) S ?_;clear S;intro h br S n_br e_br
     rw [tX]at S
     simp only [BS,LB,cls,Nat.reduceLT,Nat.reduceEqDiff,Nat.reduceAdd,Nat.reducePow,Nat.reduceDiv,Nat.reduceMod,Nat.reduceLeDiff,Tryz.FFt1068,r4,Xm]
     have e0:(zQ N).map (fun v=>if v<0 then gJ A f ba v 0 else .slice none 0 0)=(zQ N).map (fun _=>(.slice none 0 0:Value)):=by simp
     rw [<-e0]at S
     refine bA (fun(j:Nat) ρ h=>j<=N/\St NoM h0 h [(br,.row ((zQ N).map fun v=>if v<j then gJ A f ba v 0 else .slice none 0 0) 1),(ba,.row ((zQ A.length).map fun _=>.int .i64 0) 1),(bm,.row ((zQ N).map (kY A f A.length)) 1)] []/\
      ρ 0=.func (.func g) #[] #[]/\ρ 1=ptrTo b/\ρ 7=.slice (some ⟨ba,0,none⟩) A.length A.length/\ρ 8=.slice (some ⟨br,0,none⟩) N N/\ρ 9=.int .i64 (start A f j)/\ρ 40=.slice (some ⟨bm,0,none⟩) N N/\ρ 41=.int .i64 N/\ρ 42=.int .i64 j) (fun j=>N-j) ?_ 0 _ _ ?_
     . clear S r0 r1 r4 r18 r19 r20
       intro j ih ρ h ⟨hj,S,r0,r1,r7,r8,r9,r40,r41,r42⟩
       by_cases hjt:j<N
       . have lm:=S.ld (b:=bm) (o:=j) m2 (jE (F:=kY A f A.length) hjt)
         unfold kY at lm
         have top:=oa A f j
         have w:aq .i64 ((j:Int)+1)=((j+1:Nat):Int):=by rw [wrap64]<;>omega
         have w2:aq .i64 ((start A f j:Int)+((outs A f A.length j).length:Nat))=((start A f j+(outs A f A.length j).length:Nat):Int):=by rw [wrap64]<;>omega
         have sl:dQ zM 33 (.slice (some ⟨ba,0,none⟩) A.length A.length) (some (.int .i64 (start A f j))) (some (.int .i64 (start A f j))) (some (.int .i64 ((start A f j+(outs A f A.length j).length:Nat):Int)))=some (gJ A f ba j 0):=by
          rw [slice_at Xo Tryz.s3 (by omega) (by omega)]
          unfold gJ
          rw [Nat.add_sub_cancel_left,zT]
          by_cases hz:(outs A f A.length j).length=0
          . rw [if_pos (by omega),if_pos hz]
          . rw [if_neg (by omega),if_neg hz]
         have fr:Fl (gJ A f ba j 0):=bL
         simp only [BS,LB,Nat.reduceLT,Nat.reduceEqDiff,Option.map_some,Tryz.FFt1068,r7,r8,r9,r40,r41,r42,aP,hjt,lm,w2,sl]
         refine aC (aI S (i:=0) rfl Tryz.s33 fr (by simpa using hjt) ono) ?_
         clear S lm;rintro h ⟨S,mo⟩;clear mo
         simp only [LC]at S
         rw [show((zQ N).map fun v=>if v<j then gJ A f ba v 0 else .slice none 0 0).set j (gJ A f ba j 0)=(zQ N).map fun v=>if v<j+1 then gJ A f ba v 0 else .slice none 0 0 from by
          have:=j5 (N:=N) (k:=j) (F:=fun v=>if v<j then gJ A f ba v 0 else .slice none 0 0) (F':=fun v=>if v<j+1 then gJ A f ba v 0 else .slice none 0 0) (fun v hv hne=>by
           show ite _ _ _=ite _ _ _
           by_cases h1:v<j
           . rw [if_pos h1,if_pos (by omega)]
           . rw [if_neg h1,if_neg (by omega)])
          simp only [if_pos (show j<j+1 by omega)]at this
          exact this]at S
         simp only [BS,LB,Nat.reduceLT,Nat.reduceEqDiff,r9,r42,w,w2]
         exact ih (j+1) _ _ (by omega) ⟨by omega,S,by simp [aa,r0],by simp [aa,r1,ae],by simp [aa,r7],by simp [aa,r8],by simp [aa,start],by simp [aa,r40],by simp [aa,r41],by simp [aa]⟩
       . have hjN:j=N:=by omega
         subst hjN
         simp only [BS,LB,Nat.reduceLT,Nat.reduceEqDiff,Tryz.FFt1068,r1,r41,r42,aP,hjt,S.old l3 (fun h=>h),gA.lenq]
         have e1:((zQ j).map fun v=>if v<j then gJ A f ba v 0 else .slice none 0 0)=(zQ j).map fun v=>gJ A f ba v (outs A f 0 v).length:=by
          refine List.map_congr_left fun v hv=>?_
          rw [if_pos (List.mem_range.1 hv)];rfl
         rw [e1]at S
         refine bA (fun(i:Nat) ρ h=>i<=A.length/\(∃cs,sQ A f j i cs/\St NoM h0 h [(br,.row ((zQ j).map fun v=>gJ A f ba v (outs A f i v).length) 1),(ba,.row cs 1),(bm,.row ((zQ j).map (kY A f A.length)) 1)] [])/\
          ρ 0=.func (.func g) #[] #[]/\ρ 1=ptrTo b/\ρ 8=.slice (some ⟨br,0,none⟩) j j/\ρ 62=va/\ρ 63=.int .i64 A.length/\ρ 64=.int .i64 i) (fun i=>A.length-i) ?_ 0 _ _ ?_
         . clear S r0 r1 r7 r8 r9 r40 r41 r42
           intro i ih ρ h ⟨hi,⟨cs,hcs,S⟩,r0,r1,r8,r62,r63,r64⟩
           by_cases hlt:i<A.length
           . obtain⟨c,o,hidx,hld⟩:=(gA.gr S.gr).ix (kd:=.i64) gP hlt
             have hfi:f A[i]<j:=hf _ (Xa hlt)
             have w:aq .i64 ((i:Int)+1)=((i+1:Nat):Int):=by rw [wrap64]<;>omega
             simp only [BS,LB,Nat.reduceLT,Nat.reduceEqDiff,Tryz.FFt1068,r62,r63,r64,aP,hlt,hidx,hld]
             refine ag aF S ?_;clear S;intro h b13 S n_b13
             simp only [BS,LB,Nat.reduceLT,Nat.reduceEqDiff,cy]
             refine aC (S.store (i:=0) rfl ?_ ?_ rfl rfl ?_ ono) ?_
             . exact(by exact Xr)
             . exact(by intro x e;cases e)
             . exact lbt rfl
             clear S;rintro h ⟨S,mo⟩;clear mo;simp only [LC,an,lay,zO,zP,Nat.reduceAdd]at S
             simp only [BS]
             refine aD (aM rfl) (q:=2184) (ps:=[(3,6)]) (by kernel_rfl) ?_
             simp only [BS,LB,cls,Nat.reduceLT,Nat.reduceEqDiff,Nat.reduceAdd,Nat.reducePow,Nat.reduceDiv,Nat.reduceMod,Nat.reduceLeDiff,Tryz.FFt1068,r0,r8,S.lds (b:=b13) (o:=0) (n:=3) m0 (lbt rfl)]
             refine tF (hk _ A[i] S.ok) ?_
             intro h g1;replace S:=S.call g1;clear g1
             simp only [BS,LB,cls,Nat.reduceLT,Nat.reduceEqDiff,Nat.reduceAdd,Nat.reducePow,Nat.reduceDiv,Nat.reduceMod,Nat.reduceLeDiff,Tryz.FFt1068,r0,r8,S.lds (b:=b13) (o:=0) (n:=3) m0 (lbt rfl)]
             refine tF (hk _ A[i] S.ok) ?_
             intro h g1;replace S:=S.call g1;clear g1
             have hd:A.getD i default=A[i]:=by simp [zS,hlt]
             have hl:(outs A f (i+1) (f A[i])).length<=(outs A f A.length (f A[i])).length:=tT A f (by omega) _
             rw [ia,hd,if_pos rfl,Xd,List.length_singleton]at hl
             have top:=oa A f (f A[i])
             have hK:(outs A f A.length (f A[i])).length≠0:=by omega
             have lr:=S.ld (b:=br) (o:=f A[i]) m1 (jE (F:=fun v=>gJ A f ba v (outs A f i v).length) hfi)
             simp only [gJ,if_neg hK]at lr
             simp only [BS,LB,cls,Nat.reduceLT,Nat.reduceEqDiff,Nat.reduceAdd,Nat.reducePow,Nat.reduceDiv,Nat.reduceMod,Nat.reduceLeDiff,Tryz.FFt1068,hfi,lr]
             refine dC (cm (by exact Xo) (by exact Xs) (by decide) (by rfl)) S ?_;clear S;intro h bs S n_bs e_bs;simp only [LC,aY,bM,an,Nat.reduceMul,Nat.reduceAdd,zU,zR,zT,zY]at S
             simp only [BS,LB,cls,Nat.reduceLT,Nat.reduceEqDiff,Nat.reduceAdd,Nat.reducePow,Nat.reduceDiv,Nat.reduceMod,Nat.reduceLeDiff]
             obtain⟨h2,e2,S2,mo2⟩:=S.fill (i:=3) (x:=.slice (some ⟨bs,0,none⟩) 1 1) (v:=.int .i64 (i:Nat)) (off:=start A f (f A[i])) (len:=(outs A f i (f A[i])).length) (cap:=(outs A f A.length (f A[i])).length) (s:=none) rfl Xo Xs Tryz.n33
              (by simp only [aO];rw [S.lds (b:=bs) (o:=0) (n:=1*1) m0 (lbt rfl)];rfl) bG (by omega) (by have:=hcs.1;omega) ono (ts:=[])
             refine jK (P:=fun h' v=>h'=h2/\v=.slice (some ⟨ba,start A f (f A[i]),none⟩) ((outs A f i (f A[i])).length+1) (outs A f A.length (f A[i])).length) ⟨_,_,e2,rfl,rfl⟩ ?_
             rintro h v ⟨rfl,rfl⟩
             clear S e2 mo2;have S:=S2;clear S2
             simp only [LC]at S
             simp only [BS,LB,cls,Nat.reduceLT,Nat.reduceEqDiff,Nat.reduceAdd,Nat.reducePow,Nat.reduceDiv,Nat.reduceMod,Nat.reduceLeDiff,Tryz.FFt1068,hfi]
             refine dK (aI S (i:=2) rfl Tryz.s33 bL (by simpa using hfi) ono) ?_
             clear S;rintro h ⟨S,mo⟩;clear mo
             simp only [LC]at S
             have e3:((zQ j).map fun v=>gJ A f ba v (outs A f i v).length).set (f A[i]) (.slice (some ⟨ba,start A f (f A[i]),none⟩) ((outs A f i (f A[i])).length+1) (outs A f A.length (f A[i])).length)=(zQ j).map fun v=>gJ A f ba v (outs A f (i+1) v).length:=by
              have:=j5 (N:=j) (k:=f A[i]) (F:=fun v=>gJ A f ba v (outs A f i v).length) (F':=fun v=>gJ A f ba v (outs A f (i+1) v).length) (fun v hv hne=>by
               show gJ _ _ _ _ _=gJ _ _ _ _ _
               rw [ia,hd,if_neg (fun e=>hne e.symm),Xc])
              rw [<-this]
              congr 1
              show _=gJ _ _ _ _ _
              rw [ia,hd,if_pos rfl,Xd]
              unfold gJ
              rw [if_neg hK];rfl
             rw [e3]at S
             replace S:=S.drop1.drop1
             simp only [BS,LB,Nat.reduceLT,Nat.reduceEqDiff,Nat.reduceAdd,r64,w]
             refine⟨by simp only [bH,bO,bg,bV,bD,ne_eq,not_false_eq_true,bU,cu,bJ,bF,cB,dt,aS,Nat.reduceLT,Nat.reduceEqDiff,reduceIte,zZ,r0,r1,r8,ae,note_runq,mK,ui,pair_n],?_⟩
             exact ih (i+1) _ _ (by omega) ⟨by omega,⟨_,fill_step hcs hlt,S⟩,by simp [aa,r0],by simp [aa,r1,ae],by simp [aa,r8],by simp [aa,r62],by simp [aa,r63],by simp [aa]⟩
           . have hiN:i=A.length:=by omega
             subst hiN
             simp only [BS,LB,ac,Nat.reduceLT,Nat.reduceEqDiff,r8,r63,r64,aP,hlt]
             refine⟨S.gr,br,_,rfl,n_br,S.row m0,by simp,fun v hv=>⟨_,jE hv,.inr ⟨ba,_,none,_,rfl,Xt _,?_⟩,fun c (hc:ba=c)=>hc▸n_ba⟩⟩
             have hR:=S.row (b:=ba) (l:=cs) (md:=1) m1
             have ht:=oa A f v
             have hl:=hcs.1
             rw [zT]
             by_cases hz:(outs A f A.length v).length=0
             . rw [if_pos hz,hz,hR.load (by omega)]
               rw [List.length_eq_zero_iff.1 hz];rfl
             . rw [if_neg hz,hR.load (by omega)]
               congr 1
               refine List.ext_getElem? fun r=>?_
               have e4:(outs A f A.length v).flatMap cJ=(outs A f A.length v).map fun x=>.int .i64 (x:Nat):=by
                rw [XF,List.map_eq_flatMap,XF];rfl
               rw [e4,Xl,List.getElem?_take,List.getElem?_drop]
               by_cases hr:r<(outs A f A.length v).length
               . rw [if_pos hr,hcs.2 v r _ hv (zW hr),zW hr];rfl
               . rw [if_neg hr,List.getElem?_eq_none (by omega)];rfl
         . exact⟨XN _,⟨_,fill_zero,S⟩,by simp [aa,r0],by simp [aa,r1,ae],by simp [aa,r8],by simp [aa],by simp [aa],by simp [aa]⟩
     . exact⟨XN _,S,by simp [aa,r0],by simp [aa,r1,ae],by simp [aa],by simp [aa],by simp [aa,start],by simp [aa,r4],by simp [aa],by simp [aa]⟩
 . exact⟨XN _,S,by simp [aa,bn],by simp [aa,bn,ce,ae],by simp [aa],by simp [aa],by simp [aa],by simp [aa]⟩
open Tryz in
def Tryz.FFt1133:=aj Z1<|aj Z2<|aj Z0<|aj Z3<|aj Z5<|aj Z13<|aj Z6<|aj Z10<|aj Z4<|aj Z8<|aj Z12<|aj Z11<|aj Z26<|aj a153<|aj s153<|aj z153<|n153
open Tryz in
def Tryz.FFt1112:=aj Z1<|aj Z2<|aj Z0<|aj Z3<|aj Z7<|aj Z5<|aj Z13<|aj Z6<|aj Z10<|aj Z70<|aj Z15<|aj Z8<|aj Z74<|aj Z75<|aj a94<|aj s94<|aj z94<|aj i94<|aj n94<|aj p94<|aj ff94<|aj d94<|aj Z12<|Z11
theorem of_ok{h0:Hp}(ok:h0.t.Sized h0.n){γ:Gra}(hγ:Good γ){vx vy va:Value}(ga:cU h0 vx vy va γ){m:Nat}(hm:m<=h0.n)(hz: ∀c,av vx c\/av vy c\/av va c->m<=c):
 Ret zM 33 [fW γ vx vy va] h0 fun v h'=>Gr h0 h'/\bN h' m v γ:=by
 have S:=Si ok
 refine ab (n:=20) (rs:=[.tmp 2]) rfl Tryz.e33 rfl rfl rfl (lbt rfl) ?_
 simp only [BS,Nat.reduceLT,fW]
 refine ag (aZ (by intro x e;cases e)) S ?_;clear S;intro h b S n_b;simp only [an]at S
 simp only [BS,LB,Nat.reduceLT,Nat.reduceEqDiff,Nat.reduceAdd,Nat.reduceLeDiff,Tryz.FFt1133,XG,Xq,XH,S.lds (b:=b) (o:=0) (n:=4) m0 (lbt rfl)]
 refine ag (aZ (by intro x e;cases e)) S ?_;clear S;intro h b2 S n_b2;simp only [an]at S
 simp only [BS,LB,Nat.reduceLT,Nat.reduceEqDiff]
 have k1:=S.fr.n
 have lt1:=(S.row (b:=b2) m0).lt S.ok
 refine step_ret (of1_ok S.ok hγ (S.row m1) (ga.gr S.gr) of2_key (fun a ha=>(hγ.arcs a ha).1)) ?_;intro vo h ⟨g,R1⟩;replace S:=S.call g;clear g
 simp only [BS,LB,Nat.reduceLT,Nat.reduceEqDiff]
 have k2:=S.fr.n
 have lt2:=(S.row (b:=b2) m0).lt S.ok
 refine step_ret (of1_ok S.ok hγ (S.row m1) (ga.gr S.gr) of3_key (fun a ha=>(hγ.arcs a ha).2.1)) ?_;intro v h ⟨g,R2⟩;replace S:=S.call g;replace R1:=R1.gr g;clear g
 have f1:Fl v:=by obtain⟨_,_,rfl,_⟩:=R2;exact bL
 have f2:Fl vo:=by obtain⟨_,_,rfl,_⟩:=R1;exact bL
 simp only [BS,LB,Nat.reduceLT,Nat.reduceEqDiff,Tryz.FFt1133]
 have a1: ∀c,c=b2->c<_:=fun c e=>e▸lt1
 have a2: ∀c,c=b2->c<_:=fun c e=>e▸lt2
 refine aC (aI S (i:=0) rfl ?_ ?_ ?_ ono) ?_
 . exact(by simp only [Tryz.FFt1133])
 . exact(by assumption)
 . exact zN (lbt rfl)
 clear S;rintro h ⟨S,mo⟩;replace R1:=R1.mo mo a1;replace R2:=R2.mo mo a2;clear mo;simp only [LC,an,lay,zO,zP,Nat.reduceAdd]at S
 simp only [BS,LB,Nat.reduceLT,Nat.reduceEqDiff,Tryz.FFt1133]
 refine aC (aI S (i:=0) rfl ?_ ?_ ?_ ono) ?_
 . exact(by simp only [Tryz.FFt1133])
 . exact(by assumption)
 . exact zN (lbt rfl)
 clear S;rintro h ⟨S,mo⟩;replace R1:=R1.mo mo a1;replace R2:=R2.mo mo a2;clear mo;simp only [LC,an,lay,zO,zP,Nat.reduceAdd]at S
 simp only [BS,LB,ac,Nat.reduceLT,Nat.reduceEqDiff]
 exact⟨S.gr,b2,vx,vy,va,vo,v,rfl,S.row m0,ga.gr S.gr,R1.low (zV hm k1),R2.low (zV hm k2),zV hm n_b2,hz⟩
theorem netNew_ok{h0:Hp}(ok:h0.t.Sized h0.n){γ:Gra}(hγ:Good γ){vx vy va:Value}(ga:cU h0 vx vy va γ):
 Ret zM 12 [fW γ vx vy va] h0 fun r h'=> ∃v,r=.tuple #[v,.nilIface]/\Gr h0 h'/\bN h' h0.n v γ:=by
 have S:=Si ok
 refine ab (n:=17) (rs:=[.tmp 2,.tmp 3]) rfl Tryz.e12 rfl rfl rfl (lbt rfl) ?_
 simp only [BS,Nat.reduceLT,fW]
 refine ag (aZ (by intro x e;cases e)) S ?_;clear S;intro h b S n_b;simp only [an]at S
 simp only [BS,LB,Nat.reduceLT,Nat.reduceEqDiff,Tryz.FFt1112,XG,Xq,XH,S.lds (b:=b) (o:=0) (n:=4) m0 (lbt rfl)]
 refine au (check_ok S.ok hγ (ga.gr S.gr)) ?_;intro h g;replace S:=S.call g;clear g
 simp only [BS,LB,Nat.reduceLT,Nat.reduceEqDiff,Tryz.FFt1112,XG,Xq,XH,S.lds (b:=b) (o:=0) (n:=4) m0 (lbt rfl)]
 have k1:=S.fr.n
 refine step_ret (own_ok S.ok hγ (ga.gr S.gr)) ?_;intro v h ⟨g,vx',vy',va',ev,ga',hz,_⟩;replace S:=S.call g;clear g
 subst ev
 simp only [BS,LB,Nat.reduceLT,Nat.reduceEqDiff]
 refine step_ret (of_ok S.ok hγ ga' (m:=h0.n) S.fr.n (fun c hc=>zV k1 (hz c hc))) ?_;intro v h ⟨g,R⟩;replace S:=S.call g;clear g
 simp only [BS,LB,ac,Nat.reduceLT,Nat.reduceEqDiff]
 exact⟨_,rfl,S.gr,R⟩
def pos:List Int->Int->Option Nat
 | [],_=>none
 |y::ys,x=>if x=y then some 0 else(pos ys x).map (· +1)
def Tryz.FFh1242:=aj Z1<|aj Z2<|aj Z0<|aj Z3<|aj Z7<|aj Z9<|aj Z14<|aj Z17<|Z4
def Tryz.FFh1230:=aj Z1<|aj Z2<|aj Z0<|aj Z3<|aj Z4<|aj Z16<|aj Z28<|aj Z20<|aj Z30<|Z72
def Tryz.FFh1210:=aj Z1<|aj Z2<|aj Z0<|aj Z16<|aj Z28<|aj Z20<|aj Z30<|Z72
def jZ(a b:Int):Int:=if a<b then-1 else if b<a then 1 else 0
theorem vw{h0:Hp}(ok:h0.t.Sized h0.n){a:Int}:bK zM 153 [.int .i64 a] h0 (.bool false):=by
 have S:=Si ok
 refine ab (n:=6) (rs:=[.tmp 2]) rfl Tryz.e153 rfl rfl rfl (lbt rfl) ?_
 simp only [BS,LB,ac,Nat.reduceLT,Nat.reduceEqDiff]
 exact S.gr
theorem nanI_ok{h0:Hp}(ok:h0.t.Sized h0.n){a:Int}:bK zM 249 [.int .i64 a] h0 (.bool false):=by
 have S:=Si ok
 refine ab (n:=6) (rs:=[.tmp 2]) rfl Tryz.e249 rfl rfl rfl (lbt rfl) ?_
 simp only [BS,LB,ac,Nat.reduceLT,Nat.reduceEqDiff]
 exact S.gr
theorem xe{h0:Hp}(ok:h0.t.Sized h0.n){a b:Int}:bK zM 82 [.int .i64 a,.int .i64 b] h0 (.int .i64 (jZ a b)):=by
 have S:=Si ok
 unfold jZ
 refine ab (n:=20) (rs:=[.tmp 4]) rfl Tryz.e82 rfl rfl rfl (lbt rfl) ?_
 simp only [BS,LB,Nat.reduceLT,Nat.reduceEqDiff]
 refine au (vw S.ok) ?_;intro h g;replace S:=S.call g;clear g
 simp only [BS,LB,Nat.reduceLT,Nat.reduceEqDiff]
 refine au (vw S.ok) ?_;intro h g;replace S:=S.call g;clear g
 by_cases h1:a<b
 . simp only [BS,LB,ac,Nat.reduceLT,Nat.reduceEqDiff,h1]
   exact S.gr
 . by_cases h2:b<a
   . simp only [BS,LB,ac,Nat.reduceLT,Nat.reduceEqDiff,h1,h2]
     exact S.gr
   . simp only [BS,LB,ac,Nat.reduceLT,Nat.reduceEqDiff,h1,h2]
     exact S.gr
theorem cmpInt_ok{h0:Hp}(ok:h0.t.Sized h0.n){a b:Int}:bK zM 243 [.int .i64 a,.int .i64 b] h0 (.int .i64 (jZ a b)):=by
 have S:=Si ok
 unfold jZ
 refine ab (n:=20) (rs:=[.tmp 4]) rfl Tryz.e243 rfl rfl rfl (lbt rfl) ?_
 simp only [BS,LB,Nat.reduceLT,Nat.reduceEqDiff]
 refine au (nanI_ok S.ok) ?_;intro h g;replace S:=S.call g;clear g
 simp only [BS,LB,Nat.reduceLT,Nat.reduceEqDiff]
 refine au (nanI_ok S.ok) ?_;intro h g;replace S:=S.call g;clear g
 by_cases h1:a<b
 . simp only [BS,LB,ac,Nat.reduceLT,Nat.reduceEqDiff,h1]
   exact S.gr
 . by_cases h2:b<a
   . simp only [BS,LB,ac,Nat.reduceLT,Nat.reduceEqDiff,h1,h2]
     exact S.gr
   . simp only [BS,LB,ac,Nat.reduceLT,Nat.reduceEqDiff,h1,h2]
     exact S.gr
theorem or2_ok{h0:Hp}(ok:h0.t.Sized h0.n){v:Value}{a b:Int}(hv:aA h0 1 (encI .i64) v [a,b]):bK zM 242 [v] h0 (.int .i64 (if a=0 then b else a)):=by
 have S:=Si ok
 obtain⟨c0,o0,i0,l0⟩:=hv.ix (kd:=.i64) (dV .i64) (i:=0) (by simp)
 obtain⟨c1,o1,i1,l1⟩:=hv.ix (kd:=.i64) (dV .i64) (i:=1) (by simp)
 have i0':idxS (some 1) v (.int .i64 0)=some (.pointer (some ⟨c0,o0,none⟩)):=i0
 have i1':idxS (some 1) v (.int .i64 1)=some (.pointer (some ⟨c1,o1,none⟩)):=i1
 replace l0:h0.load c0 o0 1=some [.int .i64 a]:=l0
 replace l1:h0.load c1 o1 1=some [.int .i64 b]:=l1
 have w1:aq .i64 1=1:=rfl
 have w2:aq .i64 2=2:=rfl
 refine ab (n:=18) (rs:=[.tmp 2]) rfl Tryz.e242 rfl rfl rfl (lbt rfl) ?_
 simp only [BS,LB,Nat.reduceLT,Nat.reduceEqDiff,Nat.reduceAdd,zX,Tryz.FFh1242,hv.lenq]
 rw [bC]
 by_cases ha:a=0
 . simp only [BS,LB,Nat.reduceLT,Nat.reduceEqDiff,Int.reduceLT,Int.reduceAdd,Tryz.FFh1242,i0',l0,ha,w1]
   rw [bC]
   by_cases hb:b=0
   . simp only [BS,LB,Nat.reduceLT,Nat.reduceEqDiff,Int.reduceLT,Int.reduceAdd,Tryz.FFh1242,i1',l1,hb,w2]
     rw [bC]
     simp only [BS,LB,ac,Nat.reduceLT,Nat.reduceEqDiff,Int.reduceLT]
     exact S.gr
   . simp only [BS,LB,ac,Nat.reduceLT,Nat.reduceEqDiff,Int.reduceLT,Tryz.FFh1242,i1',l1,hb]
     exact S.gr
 . simp only [BS,LB,ac,Nat.reduceLT,Nat.reduceEqDiff,Int.reduceLT,Tryz.FFh1242,i0',l0,ha]
   exact S.gr
theorem vG{h0:Hp}(ok:h0.t.Sized h0.n){bh bl bm cap:Nat}{n:Int}{l:List Hd}(R:eS h0 bh bl bm cap n l){i k:Nat}(hi:i<l.length)(hk:k<l.length):
 bK zM 230 [ptrTo bh,.int .i64 i,.int .i64 k] h0 (.bool (decide (hlt (l.getD i default) (l.getD k default)))):=by
 have S:=Si ok
 obtain⟨cs,es,c,f,hc,hm,C,MI,IF⟩:=R.ex
 have r0:=R.row.load1 (o:=0) rfl
 have i0:=C.ld0 hc hi
 have i1:=C.ld1 hc hi
 have k0:=C.ld0 hc hk
 have k1:=C.ld1 hc hk
 refine ab (n:=44) (rs:=[.tmp 6]) rfl Tryz.e230 rfl rfl rfl (lbt rfl) ?_
 simp only [BS]
 refine aD (aM rfl) (q:=17179869184) (ps:=[(16,32),(16,28),(16,24),(16,20)]) (by kernel_rfl) ?_
 simp only [BS,LB,cls,Nat.reduceLT,Nat.reduceEqDiff,Nat.reduceAdd,Nat.reducePow,Nat.reduceDiv,Nat.reduceMod,Nat.reduceLeDiff,Tryz.FFh1230,r0,hi,hk,i1,k1]
 refine df (xe S.ok) ?_
 intro h g;replace S:=S.call g
 replace r0:=g.load r0;replace i0:=g.load i0;replace i1:=g.load i1;replace k0:=g.load k0;replace k1:=g.load k1
 have e1:leaves _ _ bl=true:=aw g (hc.lt ok)
 have e2:leaves _ _ bh=true:=aw g (R.row.lt ok)
 clear g
 simp only [BS,LB,cls,Nat.reduceLT,Nat.reduceEqDiff,Nat.reduceAdd,Nat.reducePow,Nat.reduceDiv,Nat.reduceMod,Nat.reduceLeDiff,Tryz.FFh1230,r0,hi,hk,i0,k0]
 refine df (cmpInt_ok S.ok) ?_
 intro h2 g;replace S:=S.call g
 replace r0:=g.load r0;replace i0:=g.load i0;replace i1:=g.load i1;replace k0:=g.load k0;replace k1:=g.load k1
 clear g
 simp only [BS,LB,cls,Nat.reduceLT,Nat.reduceEqDiff,Nat.reduceAdd,Nat.reducePow,Nat.reduceDiv,Nat.reduceMod,Nat.reduceLeDiff]
 refine dC (cm (by exact Xo) (by exact Xs) (by decide) (by rfl)) S ?_;clear S;intro h bs S n_bs e_bs;simp only [LC,aY,bM,an,Nat.reduceMul,Nat.reduceAdd,zU,zR,zT,zY]at S
 simp only [BS,LB,cls,Nat.reduceLT,Nat.reduceEqDiff,Nat.reduceAdd,Nat.reducePow,Nat.reduceDiv,Nat.reduceMod,Nat.reduceLeDiff]
 have hv:aA h 1 (encI .i64) (.slice (some ⟨bs,0,none⟩) 2 2) [jZ (l.getD i default).key (l.getD k default).key,jZ (l.getD i default).id (l.getD k default).id]:=.inr ⟨bs,0,none,2,rfl,Xt _,S.lds (b:=bs) (o:=0) (n:=2*1) m0 (lbt rfl)⟩
 refine df (or2_ok S.ok hv) ?_
 intro h3 g;replace S:=S.call g;clear g
 simp only [BS,LB,cls,ac,Nat.reduceLT,Nat.reduceEqDiff,Nat.reduceAdd,Nat.reducePow,Nat.reduceDiv,Nat.reduceMod,Nat.reduceLeDiff]
 refine⟨by simp only [bH,bO,bg,bV,bD,ne_eq,not_false_eq_true,bU,cu,bJ,bF,cB,dt,aS,Nat.reduceLT,Nat.reduceEqDiff,reduceIte,zZ,ae,aG e1,aG e2,aB e1,aB e2],?_⟩
 have e3:decide ((if jZ (l.getD i default).key (l.getD k default).key=0 then jZ (l.getD i default).id (l.getD k default).id else jZ (l.getD i default).key (l.getD k default).key)<0)=decide (hlt (l.getD i default) (l.getD k default)):=by
  congr 1
  rw [eq_iff_iff]
  unfold jZ hlt
  repeat' split
  all_goals omega
 exact⟨by rw [e3],S.gr⟩
theorem qQ{h0:Hp}(ok:h0.t.Sized h0.n){bh bl bm cap:Nat}{n:Int}{l:List Hd}(R:eS h0 bh bl bm cap n l){i k:Nat}(hi:i<l.length)(hk:k<l.length):
 Ret zM 210 [ptrTo bh,.int .i64 i,.int .i64 k] h0 fun v h'=>Mo (fun c=>c=bl\/c=bm) h0 h'/\eS h' bh bl bm cap n (sw l i k):=by
 obtain⟨cs,es,c,f,hc,hm,C,MI,IF⟩:=R.ex
 have S:=St.init2 (M:=fun c=>c=bl\/c=bm) ok (o1:=.row cs 1) (o2:=.map es c) hc hm R.ne.2.2 (.inl rfl) (.inr rfl)
 have nM: ¬(bh=bl\/bh=bm):=fun h=>h.elim R.ne.1 R.ne.2.1
 have r0:=R.row.load1 (o:=0) rfl
 have r1:=R.row.load1 (o:=1) rfl
 have i2:=C.ld2 hc hi
 have k2:=C.ld2 hc hk
 have clen:=C.len
 have cle:=C.le
 refine ab (n:=62) (rs:=[]) rfl Tryz.e210 rfl rfl rfl (lbt rfl) ?_
 simp only [BS]
 refine aD (aM rfl) (q:=0) (ps:=[]) (by kernel_rfl) ?_
 simp only [BS,LB,cls,Nat.reduceLT,Nat.reduceEqDiff,Nat.reduceAdd,Nat.reducePow,Nat.reduceDiv,Nat.reduceMod,Nat.reduceLeDiff,Tryz.FFh1210,r0,hi,hk,i2,k2]
 refine dK (S.store (i:=0) rfl Tryz.s310 (by intro x e;cases e) rfl rfl (by omega) ono) ?_
 clear S;rintro h ⟨S,mo⟩;clear mo
 have C1:=C.set hi (l.getD k default)
 simp only [LC,an]at S
 have r0':=S.old r0 nM
 simp only [BS,LB,cls,Nat.reduceLT,Nat.reduceEqDiff,Nat.reduceAdd,Nat.reducePow,Nat.reduceDiv,Nat.reduceMod,Nat.reduceLeDiff,Tryz.FFh1210,hk]
 generalize lay cs (i*2) _=cs1 at S C1
 have c1l:=C1.len
 refine dK (S.store (i:=0) (off:=k*2) rfl Tryz.s310 (by intro x e;cases e) rfl rfl (by omega) ono) ?_
 clear S;rintro h ⟨S,mo⟩;clear mo
 have C2:=C1.set (i:=k) (by rw [Xj];exact hk) (l.getD i default)
 simp only [LC,an]at S
 generalize lay cs1 (k*2) _=cs2 at S C2
 rw [set_sw]at C2
 clear r0'
 have r0':=S.old r0 nM
 have r1':=S.old r1 nM
 have hi2:i<(sw l i k).length:=by rw [gM];exact hi
 have hk2:k<(sw l i k).length:=by rw [gM];exact hk
 have ai:=C2.ld0 (S.row m0) hi2
 have ak:=C2.ld0 (S.row m0) hk2
 simp only [BS,LB,Nat.reduceAdd]
 refine aD (aM rfl) (q:=0) (ps:=[]) (by kernel_rfl) ?_
 simp only [BS,LB,cls,Nat.reduceLT,Nat.reduceEqDiff,Nat.reduceAdd,Nat.reducePow,Nat.reduceDiv,Nat.reduceMod,Nat.reduceLeDiff,Tryz.FFh1210,r0',r1',hi,hk,ai,ak]
 refine jK (P:=fun h' v=> ∃n es' c',v=.tuple #[(f ((sw l i k).getD i default).id).getD (.int .i64 0),.int .i64 (Int.ofNat n)]/\St (fun c=>c=bl\/c=bm) h0 h' [(bl,.row cs2 1),(bm,.map es' c')] []/\ ∀w,∃es2,ic n w es'=some es2/\cM es2 c' (c8 f ((sw l i k).getD i default).id (some w))) ?_ ?_
 . obtain⟨h',n,e1,_,es',c',_,e4,e5⟩:=S.mentI (i:=1) (x:=(((sw l i k).getD i default).id:Int)) rfl Xf Xp (z:=.int .i64 0) (by kernel_rfl) MI
   exact⟨h',_,e1,n,es',c',rfl,e4,e5⟩
 clear S ai ak r0' r1'
 rintro h v ⟨s1,es1,c1,rfl,S,hst⟩
 obtain⟨es2,est,MI2⟩:=hst (.int .i64 i)
 simp only [BS,LB,cls,Nat.reduceLT,Nat.reduceEqDiff,Nat.reduceAdd,Nat.reducePow,Nat.reduceDiv,Nat.reduceMod,Nat.reduceLeDiff,XJ]
 refine dK (S.mstoreI (i:=1) rfl est) ?_
 clear S;rintro h ⟨mo,S⟩;clear mo
 simp only [LC]at S
 simp only [BS,LB,cls,Nat.reduceLT,Nat.reduceEqDiff,Nat.reduceAdd,Nat.reducePow,Nat.reduceDiv,Nat.reduceMod,Nat.reduceLeDiff]
 refine jK (P:=fun h' v=> ∃n es' c',v=.tuple #[(c8 f ((sw l i k).getD i default).id (some (.int .i64 i)) ((sw l i k).getD k default).id).getD (.int .i64 0),.int .i64 (Int.ofNat n)]/\St (fun c=>c=bl\/c=bm) h0 h' [(bl,.row cs2 1),(bm,.map es' c')] []/\ ∀w,∃es2,ic n w es'=some es2/\cM es2 c' (c8 (c8 f ((sw l i k).getD i default).id (some (.int .i64 i))) ((sw l i k).getD k default).id (some w))) ?_ ?_
 . obtain⟨h',n,e1,_,es',c',_,e4,e5⟩:=S.mentI (i:=1) (x:=(((sw l i k).getD k default).id:Int)) rfl Xf Xp (z:=.int .i64 0) (by kernel_rfl) MI2
   exact⟨h',_,e1,n,es',c',rfl,e4,e5⟩
 clear S
 rintro h v ⟨s2,es3,c3,rfl,S,hst2⟩
 obtain⟨es4,est2,MI4⟩:=hst2 (.int .i64 k)
 simp only [BS,LB,cls,Nat.reduceLT,Nat.reduceEqDiff,Nat.reduceAdd,Nat.reducePow,Nat.reduceDiv,Nat.reduceMod,Nat.reduceLeDiff,XJ]
 refine dK (S.mstoreI (i:=1) rfl est2) ?_
 clear S;rintro h ⟨mo,S⟩;clear mo
 simp only [LC]at S
 simp only [BS,LB,Nat.reduceAdd]
 refine⟨S.fr,?_,⟨cs2,es4,c3,_,S.row m0,(S.own _ m1).2,C2,MI4,IF.swap hi hk⟩,R.ne⟩
 rw [gM]
 exact S.fr.has (o:=.row _ 1) R.row nM
theorem up_ok{h0:Hp}(ok:h0.t.Sized h0.n){bh bl bm cap:Nat}{n:Int}{l:List Hd}(R:eS h0 bh bl bm cap n l){i:Nat}(hi:i<l.length)(hl:l.length<1000000)(U:pA l i):
 Ret zM 208 [ptrTo bh,.int .i64 i] h0 fun v h'=>Mo (fun c=>c=bl\/c=bm) h0 h'/\ ∃l',eS h' bh bl bm cap n l'/\l'.Perm l/\kQ l':=by
 refine ab (n:=23) (rs:=[]) rfl Tryz.e208 rfl rfl rfl (lbt rfl) ?_
 simp only [BS]
 refine bA (fun(i:Nat) ρ h=>i<l.length/\Mo (fun c=>c=bl\/c=bm) h0 h/\ ∃l',eS h bh bl bm cap n l'/\l'.Perm l/\pA l' i/\ρ 0=ptrTo bh/\ρ 1=.int .i64 i) (fun i=>i) ?_ i _ _ ?_
 . intro i ih ρ h ⟨hi,mo,l',R,pm,U,r0,r1⟩
   have hlen:=pm.length_eq
   by_cases h0':i=0
   . subst h0'
     simp only [BS,LB,Nat.reduceLT,Nat.reduceEqDiff,Int.reduceLT,zX,r1]
     exact⟨mo,l',R,pm,up_done U (.inl rfl)⟩
   . have hp:(0:Int)<(i:Int):=by omega
     have w1:aq .i64 ((i:Int)-1)=((i-1:Nat):Int):=by rw [wrap64]<;>omega
     have w2:aq .i64 (((i-1:Nat):Int).tdiv 4)=(((i-1)/4:Nat):Int):=by
      rw [Int.tdiv_eq_ediv_of_nonneg (by omega),show(((i-1:Nat):Int)/4)=(((i-1)/4:Nat):Int) by omega,wrap64]<;>omega
     simp only [BS,LB,Nat.reduceLT,Nat.reduceEqDiff,r0,r1,hp,w1,w2,b_quo (n:=4) (by decide)]
     refine au (vG mo.ok R (i:=i) (k:=(i-1)/4) (by omega) (by omega)) ?_
     intro h g;replace R:=R.gr g;replace mo:=mo.trans (M':=NoM) g.fr (fun _ h=>h.elim);clear g
     by_cases ha:hlt (l'.getD i default) (l'.getD ((i-1)/4) default)
     . simp only [BS,LB,Nat.reduceLT,Nat.reduceEqDiff,r0,r1,w1,w2,b_quo (n:=4) (by decide),ha]
       refine step_ret (qQ mo.ok R (i:=i) (k:=(i-1)/4) (by omega) (by omega)) ?_
       rintro v h ⟨f,R⟩
       replace mo:=mo.trans f (fun _ h=>.inl h)
       simp only [BS,LB,Nat.reduceLT,Nat.reduceEqDiff,r1,w1,w2,b_quo (n:=4) (by decide)]
       exact ih ((i-1)/4) _ _ (by omega) ⟨by omega,mo,_,R,(qS l' (by omega) (by omega)).trans pm,up_step (by omega) U (by omega) ha,by simp [aa,r0,ae],by simp [aa]⟩
     . simp only [BS,LB,Nat.reduceLT,Nat.reduceEqDiff,b_quo (n:=4) (by decide),ha]
       exact⟨mo,l',R,pm,up_done U (.inr (sg ha))⟩
 . exact⟨hi,Mo.refl ok,l,R,.refl _,U,by simp [bn,ae],by simp [bn,ce]⟩
def Tryz.FFh2244:=aj Z1<|aj Z2<|aj Z0<|aj Z3<|aj Z49<|aj Z16<|aj Z28<|aj Z20<|aj Z30<|Z72
open Tryz in
def Tryz.FFh2211:=aj Z1<|aj Z2<|aj Z0<|aj Z3<|aj Z7<|aj Z9<|aj Z14<|aj Z17<|aj Z19<|aj Z29<|aj Z37<|aj Z16<|aj a201<|aj s201<|aj z201<|aj n201<|aj Z81<|aj Z28<|aj Z20<|Z72
theorem St.monoM{M:Nat->Prop}{h0 h:Hp}{L:List (Nat×Ob)}{G:List GL}(S:St NoM h0 h L G):St M h0 h L G:=
 ⟨S.fr.mono (fun _ h=>h.elim),fun p hp=>⟨(S.own p hp).1.imp (fun h=>h) (fun h=>h.elim),(S.own p hp).2⟩,fun p hp=>⟨(S.gown p hp).1,fun b hb=>((S.gown p hp).2 b hb).imp (fun h=>h) (fun h=>h.elim)⟩,S.apart⟩
theorem below_ok{h0:Hp}(ok:h0.t.Sized h0.n){bh i:Nat}:Ret zM 231 [ptrTo bh,.int .i64 i] h0 fun v h'=>Gr h0 h'/\ ∃b1 b2,v=.func (.func 244) #[] #[ptrTo b1,ptrTo b2]/\h0.n<=b1/\h0.n<=b2/\h'.load b1 0 1=some [.int .i64 i]/\h'.load b2 0 1=some [ptrTo bh]:=by
 have S:=Si ok
 refine ab (n:=6) (rs:=[.tmp 4]) rfl Tryz.e231 rfl rfl rfl (lbt rfl) ?_
 simp only [BS,Nat.reduceLT]
 refine ag (cI (by exact dX)) S ?_;clear S;intro h b2 S n_b2
 simp only [BS,Nat.reduceLT,Nat.reduceEqDiff,if_false]
 refine ag (cI (by exact bG)) S ?_;clear S;intro h b1 S n_b1
 simp only [BS,LB,ac,Nat.reduceLT,Nat.reduceEqDiff]
 exact⟨S.gr,b1,b2,rfl,n_b1,n_b2,S.ld m0 rfl,S.ld m1 rfl⟩
theorem y6{h0:Hp}(ok0:h0.t.Sized h0.n){b1 b2 bh i n cap:Nat}{sl':Addr}(hb1:h0.load b1 0 1=some [.int .i64 i])(hb2:h0.load b2 0 1=some [ptrTo bh])(hs:h0.load bh 0 1=some [.slice (some sl') n cap])(hn:n<1000000)(hi:i<1000000):
 Iter zM 244 [] [ptrTo b1,ptrTo b2] h0 (fun c=>c=b1\/c=b2\/c=bh) ((zQ (min 4 (n-(4*i+1)))).map fun j=>[.int .i64 ((4*i+1+j:Nat):Int)]):=by
 refine qU fun lb J Z Y h F s hj=>?_
 refine enter (n:=28) (rs:=[]) rfl Tryz.e244 rfl rfl rfl (lbt rfl) ?_
 have l1:=s.load ok0 hb1 (.inl rfl)
 have a1:aq .i64 (4*(i:Int))=((4*i:Nat):Int):=by rw [wrap64]<;>omega
 have a2:aq .i64 (((4*i:Nat):Int)+1)=((4*i+1:Nat):Int):=by rw [wrap64]<;>omega
 have a3:aq .i64 (((4*i:Nat):Int)+4)=((4*i+4:Nat):Int):=by rw [wrap64]<;>omega
 simp only [BS,LB,Nat.reduceLT,Nat.reduceEqDiff,Tryz.FFh2244,l1,a1,a2]
 refine bA (fun(j:Nat) ρ h=>j<=min 4 (n-(4*i+1))/\ ∃F,ItS h0 (fun c=>c=b1\/c=b2\/c=bh) h F/\J j h F/\ρ 0=.func (.yield lb) #[] #[]/\ρ 1=ptrTo b1/\ρ 2=ptrTo b2/\ρ 4=.int .i64 ((4*i+1+j:Nat):Int)) (fun j=>min 4 (n-(4*i+1))-j) ?_ 0 _ _ ?_
 . clear l1
   intro j ih ρ h ⟨hjm,F,s,hj,r0,r1,r2,r4⟩
   have l1:=s.load ok0 hb1 (.inl rfl)
   have l2:=s.load ok0 hb2 (.inr (.inl rfl))
   have l3:=s.load ok0 hs (.inr (.inr rfl))
   by_cases hlt:j<min 4 (n-(4*i+1))
   . have c1:((4*i+1+j:Nat):Int)<=((4*i+4:Nat):Int):=by omega
     have c2:4*i+1+j<n:=by omega
     have w:aq .i64 (((4*i+1+j:Nat):Int)+1)=((4*i+1+(j+1):Nat):Int):=by rw [wrap64]<;>omega
     simp only [BS,LB,Nat.reduceLT,Nat.reduceEqDiff,Tryz.FFh2244,r0,r1,r2,r4,l1,l2,l3,a1,a3,c1,c2,aP]
     refine gf Y s hj (i:=j) (by rw [Xl,XL hlt];rfl) ?_ ?_ ?_
     . intro h' F' a s' _ _
       simp only [BS,LB,Nat.reduceLT,Nat.reduceEqDiff,r4,w]
       exact ih (j+1) _ _ (by omega) ⟨by omega,F',s',a,by simp [aa,r0],by simp [aa,r1,ae],by simp [aa,r2,ae],by simp [aa]⟩
     . intro h' a _
       simp only [BS,LB,Nat.reduceLT,Nat.reduceEqDiff]
       exact iV rfl ⟨rfl,.inr (.inl ⟨_,rfl,a⟩)⟩
     . intro v h' a
       simp only [BS]
       exact hZ (cS ⟨rfl,.inr (.inr ⟨_,rfl,a⟩)⟩)
   . have ej:j=min 4 (n-(4*i+1)):=by omega
     have fin:YQ J Z (min 4 (n-(4*i+1))) (.ret (ac [])) none h:=⟨rfl,.inl ⟨_,F,rfl,by rw [<-ej];exact hj⟩⟩
     by_cases c1:((4*i+1+j:Nat):Int)<=((4*i+4:Nat):Int)
     . have c2: ¬4*i+1+j<n:=by omega
       simp only [BS,LB,Nat.reduceLT,Nat.reduceEqDiff,Tryz.FFh2244,r1,r2,r4,l1,l2,l3,a1,a3,c1,c2,aP]
       exact dD (cS ⟨rfl,_,rfl,by simpa using fin⟩)
     . simp only [BS,LB,Nat.reduceLT,Nat.reduceEqDiff,Tryz.FFh2244,r1,r4,l1,a1,a3,c1]
       exact dD (cS ⟨rfl,_,rfl,by simpa using fin⟩)
 . exact⟨by omega,F,s,hj,by simp [aa,cD],by simp [aa,cD,ae],by simp [aa,cD,ae],by simp [aa]⟩
theorem down_ok {h0:Hp} (ok:h0.t.Sized h0.n) {bh bl bm cap:Nat} {n:Int} {l:List Hd} (R:eS h0 bh bl bm cap n l) {i:Nat} (hi:i<l.length\/(l=[]/\i=0)) (hl:l.length<100000) (D:qJ l i):
 Ret zM 211 [ptrTo bh,.int .i64 i] h0 fun v h'=>Mo (fun c=>c=bl\/c=bm) h0 h'/\ ∃l',eS h' bh bl bm cap n l'/\l'.Perm l/\kQ l':=by
 have lt:=R.lt ok
 have S:=Si ok
 have nk: ∀{L:List (Nat×Ob)},(∀c∈keys L [],h0.n<=c)-> ∀c,c=bh\/c=bl\/c=bm-> ¬c∈keys L []:=fun hK c hc hm=>by have:=lt c hc;have:=hK c hm;omega
 refine ab (n:=27) (rs:=[]) rfl Tryz.e211 rfl rfl rfl (lbt rfl) ?_
 simp only [BS,LB,Nat.reduceLT,Tryz.FFh2211]
 refine ag aF S ?_;clear S;intro h bf S n_bf
 simp only [BS,LB,Nat.reduceLT,Nat.reduceEqDiff]
 refine aC (aI S (i:=0) rfl ?_ ?_ ?_ ono) ?_
 . exact(by simp only [Tryz.FFh2211])
 . exact(by exact iq)
 . exact zN (lbt rfl)
 clear S;rintro h ⟨S,mo⟩;clear mo;simp only [LC,an,lay,zO,zP,Nat.reduceAdd]at S
 simp only [BS]
 have RR:=R.gr S.gr
 replace S:=S.monoM (M:=fun c=>c=bl\/c=bm)
 refine pY (fun(i:Nat) ρ d h=> ∃(dbs:List Nat) (l':List Hd),d=dbs.map pE/\St (fun c=>c=bl\/c=bm) h0 h (dT dbs++[(bf,.row [.func (.func 230) #[ptrTo bh] #[]] 1)]) []/\(∀c∈keys (dT dbs++[(bf,Ob.row [.func (.func 230) #[ptrTo bh] #[]] 1)]) [],h0.n<=c)/\
  eS h bh bl bm cap n l'/\l'.Perm l/\qJ l' i/\(i<l.length\/(l=[]/\i=0))/\ρ 0=ptrTo bh/\ρ 1=.int .i64 i/\ρ 4=ptrTo bf) (fun i=>l.length-i) ?_ i _ _ _ ?_
 . clear S RR R D hi i
   intro i ih ρ d hS ⟨dbs,l',hd,S0,hK,R,pm,D,hi,r0,r1,r4⟩
   have hlen:=pm.length_eq
   have hi':i<1000000:=by rcases hi with hi|⟨_,hi⟩<;>omega
   have S:=S0.base
   have Rs:=R
   have n0:h0.n<=hS.n:=S0.fr.n
   simp only [BS,Nat.reduceLT,Tryz.FFh2211,r1]
   refine ag aF S ?_;clear S;intro h bb S n_bb
   simp only [BS,LB,Nat.reduceLT,Nat.reduceEqDiff]
   refine aC (aI S (i:=0) rfl ?_ ?_ ?_ ono) ?_
   . exact(by simp only [Tryz.FFh2211])
   . exact(by exact bG)
   . exact zN (lbt rfl)
   clear S;rintro h ⟨S,mo⟩;clear mo;simp only [LC,an,lay,zO,zP,Nat.reduceAdd]at S
   simp only [BS,LB,Nat.reduceLT,Nat.reduceEqDiff,r0,r1]
   have gq:=S.fr.n
   have lbb:=S.key_lt (b:=bb) (by simp [keys])
   refine step_ret (below_ok S.ok) ?_;intro v h ⟨g,b1,b2,e,n1,n2,q1,q2⟩;replace S:=S.call g;clear g
   subst e
   simp only [BS]
   replace R:=R.mo1 S.fr (nk hK)
   have gh:=S.fr.n
   refine kA S (g:=244) (a:=#[]) (b:=#[ptrTo b1,ptrTo b2]) (by simp [cB,aa,ae]) rfl rfl ?_
   intro h2 db lb S' hdb hlb g2
   have kb: ∀c∈keys (dT dbs++[(bf,Ob.row [.func (.func 230) #[ptrTo bh] #[]] 1)]) [],c<b1/\c<b2:=fun c hc=>by have:=S0.key_lt hc;have:=n_bb;omega
   generalize hB:dT dbs++[(bf,Ob.row [.func (.func 230) #[ptrTo bh] #[]] 1)]=B at S S' S0 hK kb
   have mf:(bf,Ob.row [.func (.func 230) #[ptrTo bh] #[]] 1)∈B:=by rw [<-hB];exact List.mem_append_right _ m0
   obtain⟨X,hX,S'⟩: ∃X:fF,X=_/\St (· ∈keys B []) hS h2 ((lb,.loop X)::(db,.dfr)::(bb,.row [.int .i64 (i:Nat)] 1)::B) []:=⟨_,rfl,S'⟩
   have R2:=R.gr g2
   have ch: ∀j,j<min 4 (l'.length-(4*i+1))->4*i+1+j<l'.length/\(4*i+1+j-1)/4=i:=fun j hj=>⟨by omega,by omega⟩
   have hY:Yld zM lb (fun j h' F=> ∃best:Nat,St (· ∈keys B []) hS h' ((lb,.loop X)::(db,.dfr)::(bb,.row [.int .i64 (best:Nat)] 1)::B) []/\F=keys ((lb,.loop X)::(db,.dfr)::(bb,.row [.int .i64 (best:Nat)] 1)::B) []/\
    (best<l'.length\/(l'=[]/\best=i))/\hle (l'.getD best default) (l'.getD i default)/\(∀q,q<j->hle (l'.getD best default) (l'.getD (4*i+1+q) default))/\(best=i\/(0<best/\(best-1)/4=i/\hlt (l'.getD best default) (l'.getD i default)))) (fun _ _=>False) ((zQ (min 4 (l'.length-(4*i+1)))).map fun j=>[.int .i64 ((4*i+1+j:Nat):Int)]):=by
    refine⟨?_,?_,fun _ _ h=>h.elim,?_⟩
    . rintro j h F ⟨best,S,rfl,_⟩;exact⟨S.ok,fun b hb=>S.key_lt hb⟩
    . rintro j h F h' ⟨best,S,rfl,k⟩ g;exact⟨best,S.call g,rfl,k⟩
    . rintro j x h F hx ⟨best,S,rfl,k1,k2,k3,k4⟩
      have hjl:j<min 4 (l'.length-(4*i+1)):=by
       have:=(List.getElem?_eq_some_iff.1 hx).1
       simpa using this
      rw [Xl,XL hjl]at hx
      cases hx
      obtain⟨c1,c2⟩:=ch j hjl
      replace k1:=k1.resolve_right (by intro e;rw [e.1]at c1;simp at c1)
      obtain⟨X0,hX0⟩: ∃x,x=X:=⟨_,rfl⟩
      subst hX
      refine kB (S.get m0) (by rw [Tryz.e211];rfl) rfl ?_
      have S1:=S
      replace S:=S.base
      simp only [BS,LB,Nat.reduceLT,Nat.reduceEqDiff]
      refine jG S (i:=0) rfl rfl rfl rfl rfl ?_
      clear S;intro h S
      simp only [LC]at S
      have lf:h.load bf 0 1=some [.func (.func 230) #[ptrTo bh] #[]]:=S.ld (o:=0) (.tail _ (.tail _ (.tail _ mf))) rfl
      simp only [BS,LB,Nat.reduceLT,Nat.reduceEqDiff,Tryz.FFh2211,r4,lf,S.ld (b:=bb) (o:=0) m2 rfl]
      have hK': ∀c∈keys ((lb,Ob.loop X0)::(db,.dfr)::(bb,.row [.int .i64 (best:Nat)] 1)::B) [],h0.n<=c:=fun c hc=>(S1.key_own hc).elim (fun h=>by omega) (fun h=>hK c h)
      clear hX0
      have Rc:eS h bh bl bm cap n l':=(Rs.mo1 S1.fr (nk hK)).mo1 S.fr (nk hK')
      refine au (vG S.ok Rc c1 k1) ?_
      intro h g;replace S:=S.call g;clear g Rc lf
      by_cases ha:hlt (l'.getD (4*i+1+j) default) (l'.getD best default)
      . simp only [BS,LB,Nat.reduceLT,Nat.reduceEqDiff,ha]
        refine aC (aI S (i:=2) rfl ?_ ?_ ?_ ono) ?_
        . exact(by simp only [Tryz.FFh2211])
        . exact(by exact bG)
        . exact zN (lbt rfl)
        clear S;rintro h ⟨S,mo⟩;clear mo;simp only [LC,an,lay,zO,zP,Nat.reduceAdd]at S
        simp only [BS]
        refine gK S (i:=0) rfl ?_
        clear S;intro h S
        simp only [LC]at S
        refine .inl ⟨rfl,_,⟨4*i+1+j,S1.rebase S,rfl,.inl c1,js (qt ha) k2,fun q hq=>?_,.inr ⟨by omega,c2,?_⟩⟩,S.fr,S.key_new⟩
        . by_cases e:q=j
          . subst e;exact rz _
          . exact js (qt ha) (k3 q (by omega))
        . rcases k4 with rfl|⟨_,_,k4⟩
          . exact ha
          . unfold hlt at*;omega
      . simp only [BS,LB,Nat.reduceLT,Nat.reduceEqDiff,ha]
        refine gK S (i:=0) rfl ?_
        clear S;intro h S
        simp only [LC]at S
        refine .inl ⟨rfl,_,⟨best,S1.rebase S,rfl,.inl k1,k2,fun q hq=>?_,k4⟩,S.fr,S.key_new⟩
        by_cases e:q=j
        . subst e;exact sg ha
        . exact k3 q (by omega)
   refine eY (vz (y6 S.ok q1 q2 (R.row.load1 (o:=0) rfl) (by omega) hi') hY (h:=h2) (F:=keys ((lb,.loop X)::(db,.dfr)::(bb,.row [.int .i64 (i:Nat)] 1)::B) []) g2.fr (fun b hb hlt=>?_) ⟨i,S',rfl,?_,rz _,fun q hq=>by omega,.inl rfl⟩) fun o rc h' y=>oq y ?_
   . have e1:=S'.key_own hb
     rintro(rfl|rfl|rfl)
     . rcases List.mem_cons.1 hb with e|hb
       . omega
       . rcases List.mem_cons.1 hb with e|hb
         . omega
         . rcases List.mem_cons.1 hb with e|hb
           . simp only []at e;omega
           . have:=(kb _ hb).1;omega
     . rcases List.mem_cons.1 hb with e|hb
       . omega
       . rcases List.mem_cons.1 hb with e|hb
         . omega
         . rcases List.mem_cons.1 hb with e|hb
           . simp only []at e;omega
           . have:=(kb _ hb).2;omega
     . have:=lt b (.inl rfl)
       rcases e1 with e1|e1
       . omega
       . have:=hK b e1;omega
   . rcases hi with hi|⟨hi,_⟩
     . exact .inl (by omega)
     . right;rw [hi]at pm;exact⟨pm.eq_nil,rfl⟩
   . rintro F ⟨best,T,rfl,k1,k2,k3,k4⟩
     rw [List.length_map,List.length_range]at k3
     subst hX
     refine⟨_,T.get m0,Nat.zero_ne_one,?_⟩
     replace T:=T.dead
     show Run _ _ _ _ _ _ _ _
     have lbest:=T.ld (b:=bb) (o:=0) m1 rfl
     have Rc:eS _ bh bl bm cap n l':=Rs.mo1 T.fr (nk hK)
     have km: ∀q,0<q->q<l'.length->(q-1)/4=i->hle (l'.getD best default) (l'.getD q default):=fun q q0 ql qe=>by
      have:=k3 (q-(4*i+1)) (by omega)
      rwa [show 4*i+1+(q-(4*i+1))=q by omega]at this
     have T0:=S0.rebase T
     have hK2: ∀c∈keys ((db,Ob.dfr)::(bb,.row [.int .i64 (best:Nat)] 1)::B) [],h0.n<=c:=fun c hc=>(T.key_own hc).elim (fun h=>by omega) (fun h=>hK c h)
     subst hd hB
     have T2:=T0.sub (L':=dT (db::dbs)++[(bf,Ob.row [.func (.func 230) #[ptrTo bh] #[]] 1)]) (G':=[]) (List.Sublist.cons_cons _ (List.sublist_cons_self _ _)) (List.Sublist.refl _)
     have hK3: ∀c∈keys (dT (db::dbs)++[(bf,Ob.row [.func (.func 230) #[ptrTo bh] #[]] 1)]) [],h0.n<=c:=fun c hc=>hK2 c (by simp only [keys,List.filterMap_nil,Xc,dT,Xw,List.cons_append,Xv]at hc⊢;rcases hc with h|h;exact .inl h;exact .inr (.inr h))
     by_cases e:best=i
     . subst e
       simp only [BS,LB,Nat.reduceLT,Nat.reduceEqDiff,Tryz.FFh2211,r1,lbest]
       have T3:=T2.base
       refine ff (kw (db::dbs) _ T3 fun h' T4=>⟨rfl,_,rfl,?_⟩)
       refine⟨(T2.fr.trans T4.fr fun c hc=>(T2.key_own hc).symm),l',Rc.mo1 T4.fr (nk hK3),pm,dn_done D km⟩
     . have e': ¬((best:Int)=(i:Int)):=by omega
       obtain⟨b0,be,bl'⟩:=k4.resolve_left e
       replace k1:=k1.resolve_right (fun h=>e h.2)
       simp only [BS,LB,Nat.reduceLT,Nat.reduceEqDiff,Tryz.FFh2211,r0,r1,lbest,e']
       refine step_ret (qQ T2.ok Rc (i:=i) (k:=best) (by omega) k1) ?_
       rintro v h ⟨f,Rn⟩
       have lt2:=nk hK3
       have T3:=T2.step f (fun c hc=>.inl hc) (fun c hc hM=>lt2 c (.inr hM) hc)
       have f2:Mo (fun c=>c=bl\/c=bm) _ h:=f
       have lb2:h.load bb 0 1=some [.int .i64 (best:Nat)]:=by
        have hbb:h0.n<=bb:=hK2 bb (.tail _ m0)
        have:=f.get bb (bI f.ok0 lbest) (fun hM=>by have:=lt bb (.inr hM);omega)
        unfold Hp.load at lbest⊢
        rw [this];exact lbest
       simp only [BS,LB,Nat.reduceLT,Nat.reduceEqDiff,Tryz.FFh2211,lb2]
       exact ih best _ _ _ (by omega) ⟨db::dbs,_,rfl,T3,hK3,Rn,(qS l' (by omega) k1).trans pm,dn_step D b0 k1 be bl' km,.inl (by omega),by simp [aa,r0,ae],by simp [aa],by simp [aa,r4,ae]⟩
 . exact⟨[],l,rfl,S,fun c hc=>by simp [keys,dT]at hc;subst hc;exact n_bf,RR,.refl _,D,hi,by simp [aa,bn,ae],by simp [aa,bn,ce],by simp [aa,ae]⟩
end Go.Ab
end
section
namespace Go.Ab
open Go.Proofs
set_option maxRecDepth 10000
def Tryz.FFh3156:=aj Z1<|aj Z0<|aj Z16<|aj Z23<|aj Z28<|aj Z20<|aj Z24<|Z30
def Tryz.FFh3209:=aj Z1<|aj Z2<|aj Z0<|aj Z3<|aj Z16<|aj Z23<|aj Z28<|aj Z20<|aj Z24<|Z30
def Tryz.FFh3216:=aj Z1<|aj Z2<|aj Z0<|aj Z3<|aj Z7<|aj Z9<|aj Z16<|aj Z23<|aj Z28<|aj Z20<|aj Z24<|Z30
def Tryz.FFh3160:=aj Z1<|aj Z2<|aj Z0<|aj Z3<|aj Z7<|aj Z9<|aj Z14<|aj Z17<|aj Z19<|aj Z15<|aj Z16<|aj Z23<|aj Z28<|aj Z20<|aj Z24<|Z30
def Tryz.FFh3159:=aj Z1<|aj Z2<|aj Z0<|aj Z3<|aj Z7<|aj Z9<|aj Z14<|aj Z17<|aj Z19<|aj Z27<|aj Z40<|aj Z29<|aj Z15<|aj Z16<|aj Z23<|aj Z28<|aj Z20<|aj Z24<|Z30
theorem sa{h0:Hp}(ok:h0.t.Sized h0.n){N:Nat}:Ret zM 156 [.int .i64 N] h0 fun v h'=>Gr h0 h'/\ ∃F,bj h' F v N (fun _=>none)/\ ∀b∈F,h0.n<=b:=by
 have S:=Si ok
 have mx:max (N:Int) 0=(N:Int):=by omega
 refine ab (n:=9) (rs:=[.tmp 2]) rfl Tryz.e156 rfl rfl rfl (lbt rfl) ?_
 simp only [BS]
 refine ag mS S ?_;clear S;intro h bm S n_bm
 simp only [BS,LB,Nat.reduceLT,Nat.reduceEqDiff,Nat.reduceAdd,Nat.reduceLeDiff,Tryz.FFh3156,mx]
 refine ag (aZ (by intro x e;cases e)) S ?_;clear S;intro h b S n_b;simp only [an]at S
 simp only [BS,LB,ac,Nat.reduceLT,Nat.reduceEqDiff]
 have ap:=S.apart
 simp only [keys,Xw,XM,List.filterMap_nil,Xc,List.nodup_cons,Xv,Xx,or_false]at ap
 refine⟨S.gr,[b,bm],⟨b,bm,[],rfl,fun j _ hj=>(by simp at hj),cont_nil,fun x hx=>(by cases hx),.inl ⟨rfl,rfl,ap.1,S.row m0,[],0,(S.own _ m1).2,lD⟩⟩,fun c hc=>?_⟩
 simp at hc
 rcases hc with rfl|rfl
 . exact n_b
 . exact n_bm
section
variable{h0:Hp}{F:List Nat}{p:Value}{N:Nat}{K:Nat->Option Int}
theorem pK(ok:h0.t.Sized h0.n)(H:bj h0 F p N K): ∃m:Nat,bK zM 209 [p] h0 (.int .i64 m)/\(m=0↔ ∀v,K v=none):=by
 obtain⟨bh,bm,l,rfl,ho,hc,hN,hx⟩:=H.ex
 refine⟨l.length,?_,?_⟩
 . have S:=Si ok
   obtain⟨a,n,c,m1,m2,hr,hn⟩: ∃a n c m1 m2,Row h0 bh [.slice a n c,m1,m2] 1/\n=l.length:=by
    rcases hx with⟨rfl,_,_,hr,_⟩|⟨bl,cap,_,hr⟩
    . exact⟨_,_,_,_,_,hr,rfl⟩
    . exact⟨_,_,_,_,_,hr.row,rfl⟩
   subst hn
   have l0:=hr.load1 (o:=0) rfl
   refine ab (n:=11) (rs:=[.tmp 2]) rfl Tryz.e209 rfl rfl rfl (lbt rfl) ?_
   simp only [BS,LB,ac,Nat.reduceLT,Nat.reduceEqDiff,Tryz.FFh3209,l0]
   exact S.gr
 . constructor
   . intro e
     rw [List.length_eq_zero_iff.1 e]at hc
     exact hc.nil
   . intro e
     cases l with
     |nil=>rfl
     | cons x l=>
       have:=(hc.2 x.id x.key).2 (by simp)
       rw [e]at this;cases this
theorem y9 (ok:h0.t.Sized h0.n) (H:bj h0 F p N K) {v:Nat}:bK zM 216 [p,.int .i64 v] h0 (.tuple #[.int .i64 ((K v).getD 0),.bool (K v).isSome]):=by
 have S:=Si ok
 obtain⟨m,hlen,hm⟩:=pK ok H
 obtain⟨bh,bm,l,rfl,ho,hc,hN,hx⟩:=H.ex
 by_cases h0':m=0
 . subst h0'
   have e:=hm.1 rfl v
   rw [e]
   refine ab (n:=32) (rs:=[.tmp 4,.tmp 5]) rfl Tryz.e216 rfl rfl rfl (lbt rfl) ?_
   simp only [BS,LB,Nat.reduceLT,Nat.reduceEqDiff]
   refine au (hlen) ?_;intro h g;replace S:=S.call g;clear g
   simp only [BS,LB,ac,Nat.reduceLT,Nat.reduceEqDiff,zX]
   exact⟨rfl,S.gr⟩
 . have hm0: ¬((m:Int)=0):=by omega
   rcases hx with⟨rfl,_⟩|⟨bl,cap,_,R⟩
   . exact absurd (hm.2 hc.nil) h0'
   . refine ab (n:=32) (rs:=[.tmp 4,.tmp 5]) rfl Tryz.e216 rfl rfl rfl (lbt rfl) ?_
     simp only [BS,LB,Nat.reduceLT,Nat.reduceEqDiff]
     refine au (hlen) ?_;intro h g;replace S:=S.call g;replace R:=R.gr g;clear g
     obtain⟨cs,es,c,f,hcs,hmp,C,MI,IF⟩:=R.ex
     have r0:=R.row.load1 (o:=0) rfl
     have r1:=R.row.load1 (o:=1) rfl
     have lk:=ks (x:=(v:Int)) Xf Xp (z:=.int .i64 0) (by kernel_rfl) hmp MI
     cases hk:K v with
     | none=>
       have fv:f v=none:=by
        cases hf:f v with
        |none=>rfl
        | some w=>
          obtain⟨i,hi,e⟩:=IF.2 v w hf
          have:=hc.at hi
          rw [show(l.getD i default).id=v by omega,hk]at this;cases this
       rw [fv]at lk
       simp only [BS,LB,ac,Nat.reduceLT,Nat.reduceEqDiff,Tryz.FFh3216,hm0,r1,lk,XA,Xu]
       exact S.gr
     | some k=>
       obtain⟨i,hi,e⟩:=hc.idx hk
       have fv:f v=some (.int .i64 i):=by have:=IF.1 i hi;rwa [e]at this
       rw [fv]at lk
       have l1:=C.ld1 hcs hi
       rw [e]at l1
       simp only [BS,LB,ac,Nat.reduceLT,Nat.reduceEqDiff,Tryz.FFh3216,hm0,r0,r1,lk,Xg,hi,l1]
       exact S.gr
theorem oG(ok:h0.t.Sized h0.n)(H:bj h0 F p N K){v:Nat}(hv:v<N)(hN:N<=1000)(hk:K v=none){k:Int}:
 Ret zM 160 [p,.int .i64 v,.int .i64 k] h0 fun r h'=>Mo (· ∈F) h0 h'/\ ∃F',bj h' F' p N (bZ K v (some k))/\ ∀b∈F',b∈F\/h0.n<=b:=by
 obtain⟨bh,bm,l,rfl,ho,hc,hlt,hx⟩:=H.ex
 have hll:=rO hc hlt
 have c1: ¬((v:Int)<0):=by omega
 have c2: ¬((N:Int)<=(v:Int)):=by omega
 have hn:=hc.free hk
 rcases hx with⟨rfl,rfl,hne,hr,es,c,hmp,MI⟩|⟨bl,cap,rfl,R⟩
 . have S:=St.init2 (M:=(· ∈[bh,bm])) ok (o1:=.row _ 1) (o2:=.map es c) hr hmp hne (by simp) (by simp)
   have lk:=ks (x:=(v:Int)) Xf Xp (z:=.int .i64 0) (by kernel_rfl) hmp MI
   refine ab (n:=71) (rs:=[.tmp 6]) rfl Tryz.e160 rfl rfl rfl (lbt rfl) ?_
   simp only [BS,LB,Nat.reduceLT,Nat.reduceEqDiff,Tryz.FFh3160,lk,c1,c2,XA,Xu,S.ld (b:=bh) (o:=1) m0 rfl,S.ld (b:=bh) (o:=2) m0 rfl]
   refine aD (aM rfl) (q:=0) (ps:=[]) (by kernel_rfl) ?_
   simp only [BS,LB,cls,Nat.reduceLT,Nat.reduceEqDiff,Nat.reduceAdd,Nat.reducePow,Nat.reduceDiv,Nat.reduceMod,Nat.reduceLeDiff,zX,Tryz.FFh3160,S.ld (b:=bh) (o:=0) m0 rfl,S.ld (b:=bh) (o:=1) m0 rfl]
   refine dK (S.mputI (i:=1) rfl Xf Xp MI _) ?_
   clear S;rintro h ⟨_,es',c',MI',S⟩
   simp only [LC]at S
   simp only [BS,LB,Nat.reduceLT,Nat.reduceEqDiff,Nat.reduceAdd,Tryz.FFh3160,S.ld (b:=bh) (o:=0) m0 rfl,S.ld (b:=bh) (o:=1) m0 rfl]
   refine ag (cm (by exact XE) (by exact XK) (by decide) (by rfl)) S ?_;clear S;intro h bs S n_bs;simp only [LC,aY,bM,an,Nat.reduceMul,Nat.reduceAdd,zU,zR,zT,zY]at S
   simp only [BS,LB,Nat.reduceLT,Nat.reduceEqDiff,S.ld (b:=bh) (o:=0) m1 rfl,S.ld (b:=bh) (o:=1) m1 rfl]
   have src:aO h 2 (.slice (some ⟨bs,0,none⟩) 1 1)=some (1,jL ⟨v,k⟩):=by simp only [aO];rw [S.lds (b:=bs) (o:=0) (n:=1*2) m0 (lbt rfl)];rfl
   replace S:=S.drop1
   refine fL (S.appH0 XE XK (by decide) (by decide) Tryz.n303 src) ?_
   clear S src;rintro h w ⟨bl,cap,cs,rfl,S,C,hbl⟩
   simp only [BS,LB,Nat.reduceLT,Nat.reduceEqDiff,Tryz.FFh3160]
   refine aC (aI S (i:=1) rfl ?_ ?_ ?_ ono) ?_
   . exact(by simp only [Tryz.FFh3160])
   . exact(by exact bL)
   . exact zN (lbt rfl)
   clear S;rintro h ⟨S,mo⟩;clear mo;simp only [LC,an,lay,zO,zP,Nat.reduceAdd]at S
   simp only [BS]
   refine aD (aM rfl) (q:=0) (ps:=[]) (by kernel_rfl) ?_
   simp only [BS,LB,cls,Nat.reduceLT,Nat.reduceEqDiff,Nat.reduceAdd,Nat.reducePow,Nat.reduceDiv,Nat.reduceMod,Nat.reduceLeDiff,Int.reduceSub,zX,Tryz.FFh3160,S.ld (b:=bh) (o:=0) m1 rfl,S.ld (b:=bh) (o:=1) m1 rfl]
   have R:eS h bh bl bm cap N ([]++[⟨v,k⟩]):=S.rowS C rfl MI' (idxF_nil.push hn)
   have w0:aq .i64 0=((0:Nat):Int):=rfl
   rw [w0]
   refine dp (up_ok S.ok R (i:=0) (by simp) (by simp) (ul ho ⟨v,k⟩)) ?_
   have own0:=(S.own _ m0).1
   rintro r h ⟨f,l',R',pm,ho'⟩
   simp only [BS,LB,Nat.reduceLT,Nat.reduceAdd,zX]
   refine⟨S.fr.trans f (fun c hc=>?_),[bh,bl,bm],⟨bh,bm,l',rfl,ho',(hc.push hk k).perm pm,fun x hx=>?_,.inr ⟨bl,cap,rfl,R'⟩⟩,fun b hb=>?_⟩
   . rcases hc with rfl|rfl
     . exact own0.symm
     . exact .inl (by simp)
   . have:=pm.mem_iff.1 hx
     simp at this;subst this;exact hv
   . simp at hb
     rcases hb with rfl|rfl|rfl
     . exact .inl (by simp)
     . exact own0.symm
     . exact .inl (by simp)
 . obtain⟨cs,es,c,f,hcs,hmp,C,MI,IF⟩:=R.ex
   have S:=St.init3 (M:=(· ∈[bh,bl,bm])) ok (o1:=.row cs 1) (o2:=.row _ 1) (o3:=.map es c) hcs R.row hmp R.ne.1.symm R.ne.2.2 R.ne.2.1 (by simp) (by simp) (by simp)
   have lk:=ks (x:=(v:Int)) Xf Xp (z:=.int .i64 0) (by kernel_rfl) hmp MI
   have fv:f v=none:=by
    cases hf:f v with
    |none=>rfl
    | some w=>
      obtain⟨i,hi,e⟩:=IF.2 v w hf
      have:=hc.at hi
      rw [show(l.getD i default).id=v by omega,hk]at this;cases this
   rw [fv]at lk
   refine ab (n:=71) (rs:=[.tmp 6]) rfl Tryz.e160 rfl rfl rfl (lbt rfl) ?_
   simp only [BS,LB,Nat.reduceLT,Nat.reduceEqDiff,Tryz.FFh3160,lk,c1,c2,XA,Xu,S.ld (b:=bh) (o:=1) m1 rfl,S.ld (b:=bh) (o:=2) m1 rfl]
   refine aD (aM rfl) (q:=0) (ps:=[]) (by kernel_rfl) ?_
   simp only [BS,LB,cls,Nat.reduceLT,Nat.reduceEqDiff,Nat.reduceAdd,Nat.reducePow,Nat.reduceDiv,Nat.reduceMod,Nat.reduceLeDiff,Tryz.FFh3160,S.ld (b:=bh) (o:=0) m1 rfl,S.ld (b:=bh) (o:=1) m1 rfl]
   refine dK (S.mputI (i:=2) rfl Xf Xp MI _) ?_
   clear S;rintro h ⟨_,es',c',MI',S⟩
   simp only [LC]at S
   simp only [BS,LB,Nat.reduceLT,Nat.reduceEqDiff,Nat.reduceAdd,Tryz.FFh3160,S.ld (b:=bh) (o:=0) m1 rfl,S.ld (b:=bh) (o:=1) m1 rfl]
   refine ag (cm (by exact XE) (by exact XK) (by decide) (by rfl)) S ?_;clear S;intro h bs S n_bs;simp only [LC,aY,bM,an,Nat.reduceMul,Nat.reduceAdd,zU,zR,zT,zY]at S
   simp only [BS,LB,Nat.reduceLT,Nat.reduceEqDiff,S.ld (b:=bh) (o:=0) m2 rfl,S.ld (b:=bh) (o:=1) m2 rfl]
   have src:aO h 2 (.slice (some ⟨bs,0,none⟩) 1 1)=some (1,jL ⟨v,k⟩):=by simp only [aO];rw [S.lds (b:=bs) (o:=0) (n:=1*2) m0 (lbt rfl)];rfl
   replace S:=S.drop1
   refine fL (S.appH C XE XK (by decide) (by decide) Tryz.n303 src (by omega)) ?_
   clear S src;rintro h w ⟨bl',cap',cs',rfl,S,C',hbl⟩
   simp only [BS,LB,Nat.reduceLT,Nat.reduceEqDiff,Tryz.FFh3160]
   refine aC (aI S (i:=1) rfl ?_ ?_ ?_ ono) ?_
   . exact(by simp only [Tryz.FFh3160])
   . exact(by exact bL)
   . exact zN (lbt rfl)
   clear S;rintro h ⟨S,mo⟩;clear mo;simp only [LC,an,lay,zO,zP,Nat.reduceAdd]at S
   simp only [BS]
   refine aD (aM rfl) (q:=0) (ps:=[]) (by kernel_rfl) ?_
   have w0:aq .i64 (((l.length+1:Nat):Int)-1)=((l.length:Nat):Int):=by rw [wrap64]<;>omega
   simp only [BS,LB,cls,Nat.reduceLT,Nat.reduceEqDiff,Nat.reduceAdd,Nat.reducePow,Nat.reduceDiv,Nat.reduceMod,Nat.reduceLeDiff,Tryz.FFh3160,w0,S.ld (b:=bh) (o:=0) m1 rfl,S.ld (b:=bh) (o:=1) m1 rfl]
   have R:eS h bh bl' bm cap' N (l++[⟨v,k⟩]):=S.rowS C' (by simp) MI' (IF.push hn)
   refine dp (up_ok S.ok R (i:=l.length) (by simp) (by simp;omega) (ul ho ⟨v,k⟩)) ?_
   have own0:=(S.own _ m0).1
   rintro r h ⟨f,l',R',pm,ho'⟩
   simp only [BS,LB,Nat.reduceLT,Nat.reduceAdd]
   refine⟨S.fr.trans f (fun c hc=>?_),[bh,bl',bm],⟨bh,bm,l',rfl,ho',(hc.push hk k).perm pm,fun x hx=>?_,.inr ⟨bl',cap',rfl,R'⟩⟩,fun b hb=>?_⟩
   . rcases hc with rfl|rfl
     . exact own0.symm
     . exact .inl (by simp)
   . have:=pm.mem_iff.1 hx
     simp at this
     rcases this with h|rfl
     . exact hlt x h
     . exact hv
   . simp at hb
     rcases hb with rfl|rfl|rfl
     . exact .inl (by simp)
     . exact own0.symm
     . exact .inl (by simp)
theorem pZ(ok:h0.t.Sized h0.n)(H:bj h0 F p N K){v:Nat}(hN:N<=1000){k0 k:Int}(hk:K v=some k0)(hle:k<=k0):
 Ret zM 159 [p,.int .i64 v,.int .i64 k] h0 fun r h'=>Mo (· ∈F) h0 h'/\bj h' F p N (bZ K v (some k)):=by
 obtain⟨bh,bm,l,rfl,ho,hc,hlt,hx⟩:=H.ex
 have hll:=rO hc hlt
 obtain⟨i,hi,ei⟩:=hc.idx hk
 have hv:v<N:=by
  have:=hlt (l.getD i default) (by rw [zS,zW hi];exact Xa hi)
  rwa [ei]at this
 have c1: ¬((v:Int)<0):=by omega
 have c2: ¬((N:Int)<=(v:Int)):=by omega
 have c3: ¬(k0<k):=by omega
 rcases hx with⟨rfl,_⟩|⟨bl,cap,rfl,R⟩
 . simp at hi
 . obtain⟨cs,es,c,f,hcs,hmp,C,MI,IF⟩:=R.ex
   have S:=St.init3 (M:=(· ∈[bh,bl,bm])) ok (o1:=.row cs 1) (o2:=.row _ 1) (o3:=.map es c) hcs R.row hmp R.ne.1.symm R.ne.2.2 R.ne.2.1 (by simp) (by simp) (by simp)
   have lk:=ks (x:=(v:Int)) Xf Xp (z:=.int .i64 0) (by kernel_rfl) hmp MI
   have fv:f v=some (.int .i64 i):=by have:=IF.1 i hi;rwa [ei]at this
   rw [fv]at lk
   have l1:=C.ld1 hcs hi
   have clen:=C.len
   have cle:=C.le
   have ek:(l.getD i default).key=k0:=by rw [ei]
   have ev:(l.getD i default).id=v:=by rw [ei]
   rw [ek]at l1
   refine ab (n:=61) (rs:=[.tmp 6]) rfl Tryz.e159 rfl rfl rfl (lbt rfl) ?_
   simp only [BS,LB,Nat.reduceLT,Nat.reduceEqDiff,Tryz.FFh3159,lk,c1,c2,c3,hi,l1,Xg,S.ld (b:=bh) (o:=0) m1 rfl,S.ld (b:=bh) (o:=1) m1 rfl,S.ld (b:=bh) (o:=2) m1 rfl]
   refine aC (S.store (i:=0) (off:=i*2+1) rfl Tryz.s2 (by intro x e;cases e) rfl rfl (by omega) ono) ?_
   clear S;rintro h ⟨S,_⟩
   simp only [LC,an]at S
   have C1:=C.setKey hi k
   generalize lay cs (i*2+1) _=cs1 at S C1
   simp only [BS,LB,Nat.reduceLT,Nat.reduceEqDiff,Tryz.FFh3159,S.ld (b:=bh) (o:=0) m1 rfl,S.ld (b:=bh) (o:=1) m1 rfl]
   have R1:eS h bh bl bm cap N (l.set i ⟨(l.getD i default).id,k⟩):=S.rowS C1 (by rw [Xj]) MI (IF.setKey k)
   refine step_ret (up_ok S.ok R1 (i:=i) (by rw [Xj];exact hi) (by rw [Xj];omega) (yE ho (by unfold Ab.hle;simp only [];omega))) ?_
   rintro r h ⟨f,l',R',pm,ho'⟩
   simp only [BS,Nat.reduceLT]
   have hc':=hc.lower hi k
   rw [ev]at hc'
   refine⟨S.fr.trans f (fun c hc=>?_),⟨bh,bm,l',rfl,ho',(by rw [ev]at pm;exact hc'.perm pm),fun x hx=>?_,.inr ⟨bl,cap,rfl,R'⟩⟩⟩
   . rcases hc with rfl|rfl<;>exact .inl (by simp)
   . have:=pm.mem_iff.1 hx
     rcases List.mem_or_eq_of_mem_set this with h|rfl
     . exact hlt x h
     . rw [ev];exact hv
end
end Go.Ab

end
section
namespace Go.Ab
open Go.Proofs
set_option maxRecDepth 10000
def Tryz.FFh4162:=aj Z1<|aj Z2<|aj Z0<|aj Z3<|aj Z7<|aj Z9<|aj Z14<|aj Z17<|aj Z16<|aj Z23<|aj Z28<|aj Z20<|aj Z24<|Z30
section
variable{h0:Hp}{F:List Nat}{p:Value}{N:Nat}{K:Nat->Option Int}
theorem th(ok:h0.t.Sized h0.n)(H:bj h0 F p N K)(hN:N<=1000):
 Ret zM 162 [p] h0 fun r h'=>(r=.tuple #[.int .i64 0,.int .i64 0,.bool false]/\(∀v,K v=none)/\Gr h0 h')\/ ∃v k,r=.tuple #[.int .i64 (v:Nat),.int .i64 k,.bool true]/\K v=some k/\(∀u k',K u=some k'->k<k'\/(k=k'/\v<=u))/\Mo (· ∈F) h0 h'/\bj h' F p N (bZ K v none):=by
 obtain⟨m,hlen,hm⟩:=pK ok H
 obtain⟨bh,bm,l,rfl,ho,hc,hlt,hx⟩:=H.ex
 have hll:=rO hc hlt
 by_cases h0':m=0
 . subst h0'
   have S:=Si ok
   refine ab (n:=55) (rs:=[.tmp 2,.tmp 3,.tmp 4]) rfl Tryz.e162 rfl rfl rfl (lbt rfl) ?_
   simp only [BS,LB,Nat.reduceLT,Nat.reduceEqDiff]
   refine au (hlen) ?_;intro h g;replace S:=S.call g;clear g
   simp only [BS,LB,ac,Nat.reduceLT,Nat.reduceEqDiff,zX]
   exact .inl ⟨hm.1 rfl,S.gr⟩
 . have hm0: ¬((m:Int)=0):=by omega
   rcases hx with⟨rfl,_⟩|⟨bl,cap,rfl,R⟩
   . exact absurd (hm.2 hc.nil) h0'
   . have hpos:0<l.length:=by
      cases l with
      |nil=>exact absurd (hm.2 hc.nil) h0'
      |cons x l=>simp
     have S:=Si ok
     refine ab (n:=55) (rs:=[.tmp 2,.tmp 3,.tmp 4]) rfl Tryz.e162 rfl rfl rfl (lbt rfl) ?_
     simp only [BS,LB,Nat.reduceLT,Nat.reduceEqDiff]
     refine au (hlen) ?_;intro h g;replace S:=S.call g;replace R:=R.gr g;clear g
     have g0:=S.gr
     clear S
     obtain⟨cs,es,c,f,hcs,hmp,C,MI,IF⟩:=R.ex
     have r0:=R.row.load1 (o:=0) rfl
     have l2:=C.ld2 hcs hpos
     have S:=Si g0.ok
     have i0:eR (.int .i64 0) l.length=some 0:=eX (i:=0) hpos
     have w1:aq .i64 ((l.length:Int)-1)=((l.length-1:Nat):Int):=by rw [wrap64]<;>omega
     simp only [BS,LB,Nat.reduceLT,Nat.reduceEqDiff,hm0]
     refine aD (nU (ord:=[14,0,1,2,3,4,5,6,7,8,9,10,11,12,13,15,16]) rfl rfl (by simp only [gk,reix,fZ,XB,XC,List.map_toArray,Xw,XM,Nat.reduceBEq,cond_true,cond_false];exact rfl)) (q:=1) (ps:=[(13,15),(12,15)]) (by kernel_rfl) ?_
     simp only [BS,LB,cls,Nat.reducePow,Nat.reduceDiv,Nat.reduceMod,Nat.reduceLeDiff,Tryz.FFh4162]
     refine dC aF S ?_;clear S;intro h b5 S n_b5 e_b5
     simp only [BS,LB,cls,Nat.reduceLT,Nat.reduceEqDiff,Nat.reduceAdd,Nat.reducePow,Nat.reduceDiv,Nat.reduceMod,Nat.reduceLeDiff,Tryz.FFh4162,S.old r0 (fun h=>h),S.old l2 (fun h=>h),i0,w1]
     refine dK (S.store (i:=0) rfl ?_ ?_ rfl rfl ?_ ono) ?_
     . exact(by exact Tryz.s305)
     . exact(by intro x e;cases e)
     . exact lbt rfl
     clear S;rintro h ⟨S,mo⟩;clear mo;simp only [LC,an,lay,zO,zP,Nat.reduceAdd]at S
     simp only [BS,LB,cls,Nat.reduceLT,Nat.reduceEqDiff,Nat.reduceAdd,Nat.reducePow,Nat.reduceDiv,Nat.reduceMod,Nat.reduceLeDiff,Tryz.FFh4162,S.old r0 (fun h=>h),S.old l2 (fun h=>h)]
     have g1:=S.gr
     have R1:=R.gr g1
     have l5:=S.lds (b:=b5) (o:=0) (n:=2) m0 (lbt rfl)
     have lt1:=R.lt g0.ok
     have nb:b5≠bh:=fun e=>by have:=lt1 bh (.inl rfl);omega
     have nb2:b5≠bl:=fun e=>by have:=lt1 bl (.inr (.inl rfl));omega
     refine⟨by simp only [bH,bO,bg,bV,bD,ne_eq,not_false_eq_true,bU,cu,bJ,bF,cB,dt,aS,Nat.reduceLT,Nat.reduceEqDiff,reduceIte,zZ,ae,mR,vm,m8 nb,m8 nb.symm,m8 nb2,m8 nb2.symm],?_⟩
     have sw:Ret zM 210 [ptrTo bh,.int .i64 0,.int .i64 ((l.length-1:Nat):Int)] _ _:=qQ S.ok R1 (i:=0) (k:=l.length-1) hpos (by omega)
     refine step_ret sw ?_
     --refine step_ret (qQ S.ok R1 (i := 0) (k := l.length - 1) hpos (by omega)) ?_
     rintro r hA ⟨fA,R2⟩
     have gg:Gr h0 h:=g0.trans g1
     have mA:Mo (· ∈[bh,bl,bm]) h0 hA:=(gg.fr (M:=(· ∈[bh,bl,bm]))).trans fA (fun c hc=>.inl (by rcases hc with rfl|rfl<;>simp))
     have l5A:hA.load b5 0 2=some [.int .i64 (l.getD 0 default).id,.int .i64 (l.getD 0 default).key]:=by
      have:=fA.get b5 (bI fA.ok0 l5) (fun hM=>by have:=lt1 b5 (.inr hM);omega)
      unfold Hp.load at l5⊢
      rw [this];exact l5
     have lt2:=R2.lt mA.ok
     have okA:=mA.ok
     have b5lt:=bI mA.ok l5A
     clear S R R1 fA sw hcs hmp C MI IF l5 l2 r0
     obtain⟨cs,es,c,f,hcs,hmp,C,MI,IF⟩:=R2.ex
     have S:=St.init3 (M:=(· ∈[bh,bl,bm])) (h:=hA) okA (o1:=.row cs 1) (o2:=.row _ 1) (o3:=.map es c) hcs R2.row hmp R2.ne.1.symm R2.ne.2.2 R2.ne.2.1 (by simp) (by simp) (by simp)
     have sl:=xq (kd:=.i64) (b:=bl) (len:=(sw l 0 (l.length-1)).length) (n:=l.length-1) XE Tryz.s310 (cap:=cap) (by have:=C.le;rw [gM]at this;omega)
     simp only [BS,LB,Nat.reduceLT,Nat.reduceEqDiff,Option.map_some,Option.map_none,Tryz.FFh4162,sl,S.ld (b:=bh) (o:=0) m1 rfl,S.ld (b:=bh) (o:=1) m1 rfl]
     refine aC (aI S (i:=1) rfl ?_ ?_ ?_ ono) ?_
     . exact(by simp only [Tryz.FFh4162])
     . exact(by exact bL)
     . exact zN (lbt rfl)
     clear S;rintro h ⟨S,mo⟩;clear mo;simp only [LC,an,lay,zO,zP,Nat.reduceAdd]at S
     simp only [BS,S.ld (b:=bh) (o:=0) m1 rfl,S.ld (b:=bh) (o:=1) m1 rfl]
     refine aD (aM rfl) (q:=0) (ps:=[]) (by kernel_rfl) ?_
     have nM5: ¬b5∈[bh,bl,bm]:=fun hm=>by
      have:=lt1 b5 (by simpa using hm)
      omega
     have l5a:hA.load b5 0 1=some [.int .i64 (l.getD 0 default).id]:=by have:=jv l5A (i:=0) (m:=1) (by omega);simpa using this
     have l5b:hA.load b5 1 1=some [.int .i64 (l.getD 0 default).key]:=by have:=jv l5A (i:=1) (m:=1) (by omega);simpa using this
     simp only [BS,LB,cls,Nat.reduceLT,Nat.reduceEqDiff,Nat.reduceAdd,Nat.reducePow,Nat.reduceDiv,Nat.reduceMod,Nat.reduceLeDiff,Tryz.FFh4162,S.old l5a nM5,S.ld (b:=bh) (o:=1) m1 rfl]
     refine dn_del (S.mdelI (i:=2) rfl Xf Xp MI) ?_
     clear S;rintro h ⟨_,es',c',MI',S⟩
     simp only [LC]at S
     simp only [BS,LB,Nat.reduceLT,Nat.reduceEqDiff,Nat.reduceAdd,Tryz.FFh4162]
     have slen:(sw l 0 (l.length-1)).length=l.length:=gM _ _ _
     have elast:=ik l (i:=0) (k:=l.length-1) hpos (by omega) (l.length-1)
     rw [if_pos rfl]at elast
     have IF':=IF.cut (m:=l.length-1) (by omega)
     rw [elast]at IF'
     have tl:((sw l 0 (l.length-1)).take (l.length-1)).length=l.length-1:=by rw [List.length_take,slen];omega
     have R3:eS h bh bl bm cap N ((sw l 0 (l.length-1)).take (l.length-1)):=S.rowS (C.take _) tl.symm MI' IF'
     have dn:Ret zM 211 [ptrTo bh,.int .i64 0] h _:=down_ok S.ok R3 (i:=0) (by
      by_cases e:l.length-1=0
      . exact .inr ⟨List.length_eq_zero_iff.1 (by rw [tl,e]),rfl⟩
      . exact .inl (by omega)) (by omega) (heap_pop ho hpos)
     refine step_ret dn ?_
     rintro r h ⟨fB,l',R',pm,ho'⟩
     have mB:Mo (· ∈[bh,bl,bm]) hA h:=S.fr.trans fB (fun c hc=>.inl (by rcases hc with rfl|rfl<;>simp))
     have l5c: ∀{o x},hA.load b5 o 1=some x->h.load b5 o 1=some x:=fun e=>by
      have:=mB.get b5 b5lt nM5
      unfold Hp.load at e⊢
      rw [this];exact e
     simp only [BS]
     refine aD (aM rfl) (q:=0) (ps:=[]) (by kernel_rfl) ?_
     simp only [BS,LB,cls,ac,Nat.reduceLT,Nat.reduceEqDiff,Nat.reduceAdd,Nat.reducePow,Nat.reduceDiv,Nat.reduceMod,Nat.reduceLeDiff,Tryz.FFh4162,l5c l5a,l5c l5b]
     refine .inr ⟨(l.getD 0 default).id,(l.getD 0 default).key,rfl,hc.at hpos,fun u k' hu=>?_,mA.trans mB (fun c hc=>.inl hc),⟨bh,bm,l',rfl,ho',(hc.pop hpos).perm pm,fun x hx=>?_,.inr ⟨bl,cap,rfl,R'⟩⟩⟩
     . obtain⟨j,hj,e⟩:=hc.idx hu
       have:=wX ho j hj
       rw [e]at this
       unfold Ab.hle at this
       simp only []at this
       omega
     . exact hlt x ((qS l hpos (by omega)).mem_iff.1 (List.mem_of_mem_take (pm.mem_iff.1 hx)))
end
end Go.Ab

end
section
namespace Go.Ab
open Go.Proofs
set_option maxRecDepth 10000
def Tryz.FFf144:=aj Z1<|aj Z2<|aj Z0<|aj Z3<|Z4
def Tryz.FFf143:=aj Z1<|aj Z2<|aj Z0<|aj Z3<|aj Z5<|aj Z13<|aj Z6<|aj Z10<|aj Z4<|aj Z8<|aj Z12<|Z11
def Tryz.FFf1212:=aj Z1<|aj Z2<|aj Z0<|aj Z3<|aj Z13<|Z8
def Tryz.FFf1157:=aj Z1<|aj Z2<|aj Z0<|aj Z3<|aj Z4<|Z12
def Tryz.FFf1163:=aj Z1<|aj Z2<|aj Z0<|aj Z3<|aj Z5<|aj Z13<|aj Z6<|aj Z10<|aj Z4<|aj Z8<|aj Z12<|Z11
def Tryz.FFf185:=aj Z1<|aj Z2<|aj Z0<|aj Z3<|aj Z5<|aj Z13<|aj Z6<|aj Z10<|aj Z4<|aj Z12<|Z11
def Tryz.FFf187:=aj Z1<|aj Z2<|aj Z0<|aj Z3<|aj Z5<|aj Z13<|aj Z6<|aj Z10<|aj Z4<|aj Z12<|Z11
theorem lS{h0:Hp}(ok:h0.t.Sized h0.n){α:Type}{enc:α->List Value}(he: ∀x,(enc x).length=1){v:Value}{xs:List α}(hs:aA h0 1 enc v xs)(hl:xs.length<1000000):Ret zM 44 [v] h0 fun r h'=>Gr h0 h'/\aA h' 1 enc r xs/\ ∀c,av r c->h0.n<=c:=by
 have S:=Si ok
 rcases hs with⟨rfl,rfl⟩|⟨b,o,s,c,rfl,h2,h3⟩
 . refine ab (n:=8) (rs:=[.tmp 2]) rfl Tryz.e44 rfl rfl rfl (lbt rfl) ?_
   simp only [BS,LB,ac,Nat.reduceLT,Nat.reduceEqDiff,Tryz.FFf144]
   exact⟨S.gr,.inl ⟨rfl,rfl⟩,fun c hc=>hc.elim⟩
 . refine ab (n:=8) (rs:=[.tmp 2]) rfl Tryz.e44 rfl rfl rfl (lbt rfl) ?_
   simp only [BS,LB,Nat.reduceLT,Nat.reduceEqDiff,Tryz.FFf144]
   refine ag (cm (by exact Xo) (by exact Xs) (by decide) (by rfl)) S ?_;clear S;intro h bb S n_bb;simp only [LC,aY,bM,an,Nat.reduceMul,Nat.reduceAdd,zU,zR,zT,zY]at S
   simp only [BS,LB,Nat.reduceLT,Nat.reduceEqDiff]
   refine fL (S.cloneSl (enc:=enc) (xs:=[]) Xo Xs (by decide) Tryz.n33 (.inr ⟨b,o,s,c,rfl,h2,S.old h3 (fun h=>h)⟩) he (by decide) (by simp only [XD,zR];omega) (S.row m0)) ?_
   rintro h' v ⟨S',g,sl,hc⟩
   simp only [BS,LB,ac,Nat.reduceLT,Nat.reduceEqDiff]
   refine⟨S'.gr,by simpa using sl,fun c h=>(hc c h).elim (fun e=>by omega) (fun e=>zV S.fr.n e)⟩
theorem dP{h0:Hp}(ok:h0.t.Sized h0.n){p:Value}{γ:Gra}{nb:Nat}(c:bN h0 nb p γ):bK zM 43 [p] h0 (.int .i64 γ.nodes):=by
 have S:=Si ok
 obtain⟨b,vx,vy,va,vo,vi,rfl,r,_⟩:=c.ex
 have l0:=r.load1 (o:=0) rfl
 refine ab (n:=10) (rs:=[.tmp 2]) rfl Tryz.e43 rfl rfl rfl (lbt rfl) ?_
 simp only [BS,LB,ac,Nat.reduceLT,Nat.reduceEqDiff,Tryz.FFf143,l0]
 exact S.gr
theorem oneArc_ok{h0:Hp}(ok:h0.t.Sized h0.n){v:Value}{A:List Arc}(hv:aA h0 3 cy v A){i:Nat}(hi:i<A.length):Ret zM 212 [v,.int .i64 i] h0 fun r h'=>Gr h0 h'/\r=.tuple #[.agg ⟨cy A[i]⟩,.bool true]:=by
 have S:=Si ok
 have c1: ¬((i:Int)<0):=by omega
 have c2: ¬((A.length:Int)<=(i:Int)):=by omega
 refine ab (n:=19) (rs:=[.cell 4 87,.tmp 5]) rfl Tryz.e212 rfl rfl rfl (lbt rfl) ?_
 simp only [BS,Tryz.FFf1212]
 refine ag aF S ?_;clear S;intro h b4 S n_b4
 obtain⟨c,o,hidx,hld⟩:=(hv.gr S.gr).ix (kd:=.i64) gP hi
 simp only [BS,LB,Nat.reduceLT,Nat.reduceEqDiff,Tryz.FFf1212,hv.lenq,c1,c2,hidx,hld]
 refine aC (S.store (i:=0) rfl ?_ ?_ rfl rfl ?_ ono) ?_
 . exact(by exact Xr)
 . exact(by intro x e;cases e)
 . exact lbt rfl
 clear S;rintro h ⟨S,mo⟩;clear mo;simp only [LC,an,lay,zO,zP,Nat.reduceAdd]at S
 simp only [BS,ac,cy]
 refine(dk (by decide) (by simp only [aS,ae,Nat.reduceEqDiff,reduceIte];exact cw Tryz.a87 Xr (S.lds (b:=b4) (o:=0) (n:=3) m0 (lbt rfl)))).2 ?_
 refine(fu (by decide)).2 (dZ.2 ?_)
 exact⟨S.gr,rfl⟩
theorem uq{h0:Hp}(ok:h0.t.Sized h0.n){m:Nat}{v:Value}{N:Nat}{R:Nat->List Nat}(hv:fO h0 m v N R){i:Nat}(hi:i<N):Ret zM 157 [v,.int .i64 i] h0 fun r h'=>Gr h0 h'/\ ∃w,r=.tuple #[w,.bool true]/\aA h' 1 cJ w (R i):=by
 have S:=Si ok
 obtain⟨bv,vs,rfl,_,hr,hlen,hw⟩:=hv
 obtain⟨w,e,sl,_⟩:=hw i hi
 have lw:=hr.load1 e
 have c1: ¬((i:Int)<0):=by omega
 have c2: ¬((N:Int)<=(i:Int)):=by omega
 refine ab (n:=19) (rs:=[.tmp 4,.tmp 5]) rfl Tryz.e157 rfl rfl rfl (lbt rfl) ?_
 simp only [BS,LB,ac,Nat.reduceLT,Nat.reduceEqDiff,Tryz.FFf1157,c1,c2,hi,lw]
 exact⟨S.gr,_,rfl,sl⟩
theorem qh{h0:Hp}(ok:h0.t.Sized h0.n){p:Value}{γ:Gra}{nb:Nat}(c:bN h0 nb p γ){i:Nat}(hi:i<γ.arcs.length):Ret zM 163 [p,.int .i64 i] h0 fun r h'=>Gr h0 h'/\r=.tuple #[.agg ⟨cy γ.arcs[i]⟩,.bool true]:=by
 have S:=Si ok
 obtain⟨b,vx,vy,va,vo,vi,rfl,r,ga,_⟩:=c.ex
 have l0:=r.load1 (o:=3) rfl
 refine ab (n:=18) (rs:=[.cell 4 87,.tmp 5]) rfl Tryz.e163 rfl rfl rfl (lbt rfl) ?_
 simp only [BS,Tryz.FFf1163]
 refine ag aF S ?_;clear S;intro h b4 S n_b4
 simp only [BS,LB,Nat.reduceLT,Nat.reduceEqDiff,Tryz.FFf1163,S.old l0 (fun h=>h)]
 refine step_ret (oneArc_ok S.ok (ga.A.gr S.gr) hi) ?_
 rintro v h ⟨g,rfl⟩
 replace S:=S.call g;clear g
 simp only [BS,LB,Nat.reduceLT,Nat.reduceEqDiff,cy]
 refine aC (S.store (i:=0) rfl ?_ ?_ rfl rfl ?_ ono) ?_
 . exact(by exact Xr)
 . exact(by intro x e;cases e)
 . exact lbt rfl
 clear S;rintro h ⟨S,mo⟩;clear mo;simp only [LC,an,lay,zO,zP,Nat.reduceAdd]at S
 simp only [BS,LB,ac,Nat.reduceLT,Nat.reduceEqDiff]
 refine(dk (by decide) (by simp only [aS,ae,Nat.reduceEqDiff,reduceIte];exact cw Tryz.a87 Xr (S.lds (b:=b4) (o:=0) (n:=3) m0 (lbt rfl)))).2 ?_
 refine(fu (by decide)).2 (dZ.2 ?_)
 exact⟨S.gr,rfl⟩
theorem uG{h0:Hp}(ok:h0.t.Sized h0.n){p:Value}{γ:Gra}{nb:Nat}(c:bN h0 nb p γ)(hγ:γ.arcs.length<1000){i:Nat}(hi:i<γ.nodes):Ret zM 85 [p,.int .i64 i] h0 fun r h'=>Gr h0 h'/\aA h' 1 cJ r (outs γ.arcs Arc.s γ.arcs.length i)/\ ∀c,av r c->h0.n<=c:=by
 have S:=Si ok
 obtain⟨b,vx,vy,va,vo,vi,rfl,r,ga,ro,ri,_⟩:=c.ex
 have l0:=r.load1 (o:=4) rfl
 refine ab (n:=20) (rs:=[.tmp 4]) rfl Tryz.e85 rfl rfl rfl (lbt rfl) ?_
 simp only [BS,LB,Nat.reduceLT,Nat.reduceEqDiff,Tryz.FFf185,l0]
 refine step_ret (uq S.ok ro hi) ?_
 rintro v h ⟨g,w,rfl,sl⟩
 replace S:=S.call g;clear g
 simp only [BS,LB,Nat.reduceLT,Nat.reduceEqDiff]
 have k0:=S.fr.n
 have hol:=jY γ.arcs Arc.s γ.arcs.length i
 refine step_ret (lS S.ok ii sl (by omega)) ?_;intro v h ⟨g,sl,hc⟩;replace S:=S.call g;clear g
 simp only [BS,LB,ac,Nat.reduceLT,Nat.reduceEqDiff]
 exact⟨S.gr,sl,fun c h=>zV k0 (hc c h)⟩
theorem vk{h0:Hp}(ok:h0.t.Sized h0.n){p:Value}{γ:Gra}{nb:Nat}(c:bN h0 nb p γ)(hγ:γ.arcs.length<1000){i:Nat}(hi:i<γ.nodes):Ret zM 87 [p,.int .i64 i] h0 fun r h'=>Gr h0 h'/\aA h' 1 cJ r (outs γ.arcs Arc.t γ.arcs.length i)/\ ∀c,av r c->h0.n<=c:=by
 have S:=Si ok
 obtain⟨b,vx,vy,va,vo,vi,rfl,r,ga,ro,ri,_⟩:=c.ex
 have l0:=r.load1 (o:=5) rfl
 refine ab (n:=20) (rs:=[.tmp 4]) rfl Tryz.e87 rfl rfl rfl (lbt rfl) ?_
 simp only [BS,LB,Nat.reduceLT,Nat.reduceEqDiff,Tryz.FFf187,l0]
 refine step_ret (uq S.ok ri hi) ?_
 rintro v h ⟨g,w,rfl,sl⟩
 replace S:=S.call g;clear g
 simp only [BS,LB,Nat.reduceLT,Nat.reduceEqDiff]
 have k0:=S.fr.n
 have hol:=jY γ.arcs Arc.t γ.arcs.length i
 refine step_ret (lS S.ok ii sl (by omega)) ?_;intro v h ⟨g,sl,hc⟩;replace S:=S.call g;clear g
 simp only [BS,LB,ac,Nat.reduceLT,Nat.reduceEqDiff]
 exact⟨S.gr,sl,fun c h=>zV k0 (hc c h)⟩
theorem mul64_ok{h0:Hp}(ok:h0.t.Sized h0.n){N:Nat}(hN:N<1000):bK zM 234 [.int .u64 1,.int .u64 N] h0 (.tuple #[.int .u64 0,.int .u64 N]):=by
 have S:=Si ok
 have a1: ∀{t x y},bq zM .and t x y (.int .u64 1) (.int .u64 4294967295)=some (.int .u64 1):=b_andU (N:=1) (by decide)
 have a0: ∀{t x y},bq zM .and t x y (.int .u64 0) (.int .u64 4294967295)=some (.int .u64 0):=b_andU (N:=0) (by decide)
 have s1: ∀{t x y kd},bq zM .shr t x y (.int .u64 1) (.int kd 32)=some (.int .u64 0):=b_shrU (N:=1) (by decide)
 have s0: ∀{t x y kd},bq zM .shr t x y (.int .u64 0) (.int kd 32)=some (.int .u64 0):=b_shrU (N:=0) (by decide)
 have wn:aq .u64 (N:Int)=(N:Int):=sX (by omega) (by omega)
 have w0:aq .u64 0=0:=rfl
 refine ab (n:=51) (rs:=[.tmp 4,.tmp 5]) rfl Tryz.e234 rfl rfl rfl (lbt rfl) ?_
 simp only [BS,LB,ac,Nat.reduceLT,Nat.reduceEqDiff,a1,a0,s1,s0,b_andU (N:=N) (by omega),b_shrU (N:=N) (by omega),Int.one_mul,Int.zero_mul,Int.mul_zero,Int.add_zero,wn,w0]
 exact S.gr
theorem mul_ok{h0:Hp}(ok:h0.t.Sized h0.n){N:Nat}(hN:N<1000):bK zM 214 [.int .u64 1,.int .u64 N] h0 (.tuple #[.int .u64 0,.int .u64 N]):=by
 have S:=Si ok
 refine ab (n:=30) (rs:=[.tmp 4,.tmp 5]) rfl Tryz.e214 rfl rfl rfl (lbt rfl) ?_
 simp only [BS,LB,Nat.reduceLT,Nat.reduceEqDiff]
 refine au (mul64_ok S.ok hN) ?_;intro h g;replace S:=S.call g;clear g
 simp only [BS,LB,ac,Nat.reduceLT,Nat.reduceEqDiff]
 exact S.gr
def lmax:List Int->Int
 | []=>0
 |x::xs=>xs.foldl max x
def lq(h:Hp)(n:Nat)(p:Value)(m:List Int):Prop:= ∃b v,p=ptrTo b/\Row h b [v,.int .i64 (lmax m+1)] 1/\aA h 1 (encI .i64) v m/\n<=b/\ ∀c,av v c->n<=c
theorem lq.mo{M:Nat->Prop}{h h':Hp}{n:Nat}{p:Value}{m:List Int}(c:lq h n p m)(g:Mo M h h')(hm: ∀b,M b->b<n):lq h' n p m:=by
 obtain⟨b,v,e,r,s,n1,n2⟩:=c
 exact⟨b,v,e,g.has (o:=.row _ 1) r (fun h=>by have:=hm _ h;omega),s.mo g (fun c hc hM=>by have:=hm _ hM;have:=n2 c hc;omega),n1,n2⟩
theorem lq.gr{h h':Hp}{n:Nat}{p:Value}{m:List Int}(c:lq h n p m)(g:Gr h h'):lq h' n p m:=c.mo (M:=NoM) g.fr (fun _ h=>h.elim)
end Go.Ab
end
section
namespace Go.Ab
theorem Wk.trans{B:List Arc}{a b c x y:Nat}(h:Wk B a b x)(k:Wk B b c y):Wk B a c (x+y):=by
 induction k with
 |nil=>exact h
 | @snoc w e he _ ih=>exact Wk.snoc' ih he rfl rfl (by omega)
theorem Wk.back{B C:List Arc}(hBC: ∀a∈B,∃b∈C,b.s=a.t/\b.t=a.s/\b.w=a.w){m v w x y:Nat}(h:Wk B v w x)(k:Wk C m w y):Wk C m v (x+y):=by
 induction h generalizing y with
 |nil=>rw [zR];exact k
 | @snoc z e he _ ih=>
   obtain⟨b,hb,e1,e2,e3⟩:=hBC e he
   have:=ih (Wk.snoc' k hb e1 e2 rfl)
   rw [e3]at this
   rw [show z+e.w+y=z+(y+e.w) by omega];exact this
theorem IsD.wk{B:List Arc}{s v x w:Nat}(h:IsD B s v x)(k:Wk B s v w):x<FAR/\x<=w/\Wk B s v x:=by
 rcases h with⟨a,b,c⟩|⟨a,b⟩
 . exact⟨a,c w k,b⟩
 . exact absurd k (b w)
theorem IsD.far{B:List Arc}{s v x:Nat}(h:IsD B s v x)(hx:x<FAR):Wk B s v x:=by
 rcases h with⟨a,b,c⟩|⟨a,b⟩
 . exact b
 . omega
theorem tri_to{B C:List Arc}(hBC: ∀a∈B,∃b∈C,b.s=a.t/\b.t=a.s/\b.w=a.w){m v w d p q:Nat}(hd:IsD B v w d)(hp:IsD C m v p)(hq:IsD C m w q)(h1:d<FAR)(h2:q<FAR):p<FAR/\p<=d+q:=by
 have:=hp.wk (Wk.back hBC (hd.far h1) (hq.far h2))
 exact⟨this.1,this.2.1⟩
theorem tri_fr{B:List Arc}{m v w d p q:Nat}(hd:IsD B v w d)(hp:IsD B m v p)(hq:IsD B m w q)(h1:d<FAR)(h2:p<FAR):q<FAR/\q<=p+d:=by
 have:=hq.wk ((hp.far h2).trans (hd.far h1))
 exact⟨this.1,this.2.1⟩
end Go.Ab

end

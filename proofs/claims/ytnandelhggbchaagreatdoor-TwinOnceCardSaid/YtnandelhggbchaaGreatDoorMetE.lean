/- Nets, cells, flags: what the functions do (part 5). -/
import Derived.Test.YtnandelhggbchaaGreatDoorMetD
import Derived.ChangeSlices
import Derived.ChangeArms
import Derived.ChangeSame
open Go.Ab.Tryz
open Go.Ab.Tryz renaming abEnv->zM,e24E->XB,e2E->XF
open Int renaming cast_ofNat_Int->zN,tmod_eq_emod_of_nonneg->XC
open Nat renaming lt_of_lt_of_le->Xa,lt_of_succ_le->Xf,zero_le->Xi,mul_one->Xl,le_refl->Xm,zero_add->Xn,zero_mul->Xt,one_mul->Xu,mod_lt->XE,min_eq_left->XJ,le_trans->XO
open List renaming mem_cons_of_mem->Xb,getD_eq_getElem?_getD->Xc,take->Xd,drop->Xe,mem_cons_self->Xh,length_append->Xj,getElem?_eq_getElem->Xo,length_take->Xp,getElem_mem->Xq,map_cons->Xr,getElem?_append_left->Xs,length_cons->Xv,take_succ_eq_append_getElem->Xw,length_singleton->Xx,mem_append_left->Xy,foldl_cons->Xz,take_append_of_le_length->XA,foldl_append->XD,map_nil->XG,filter_cons_of_neg->XH,filter_cons_of_pos->XI,sublist_cons_self->XK,mem_append_right->XL,flatMap_eq_foldl->XM,filterMap_cons->XN
open Bool renaming and_true->Xg,false_eq_true->Xk
set_option maxHeartbeats 4000000
set_option linter.defProp false
set_option linter.unusedVariables false
set_option linter.unusedSimpArgs false
section
namespace Go.Ab
open Go.Proofs
set_option maxRecDepth 10000
def Tryz.F1c:=aj t1<|aj t2<|aj t3<|aj t4<|t24
def Tryz.F0s:=aj t1<|aj t2<|aj t3<|aj t4<|aj t5<|aj t6<|aj t24<|t59
def Sep(a:List Value):Prop:= ∀(i j:Nat) (w u:Value) (c:Nat),a[i]? =some w->a[j]? =some u->i≠j->aq w c-> ¬aq u c
theorem qg{α:Type}{l:List α}{x u:α}{j:Nat}(h:(l++[x])[j]? =some u):l[j]? =some u\/(j=l.length/\u=x):=by
 by_cases b:j<l.length
 . rw [Xs b]at h;exact .inl h
 . rw [List.getElem?_append_right (by omega)]at h
   have a:j-l.length=0:=by
    have:=(List.getElem?_eq_some_iff.1 h).1
    simp at this;omega
   rw [a]at h
   cases h
   exact .inr ⟨by omega,rfl⟩
theorem Sep.push{f:List Value}{y:Value}(s:Sep f)(h: ∀(j:Nat) u,f[j]? =some u-> ∀c,aq u c-> ¬aq y c):Sep (f++[y]):=by
 intro i j w u c a b g d e
 rcases qg a with a|⟨k,l⟩<;>rcases qg b with b|⟨m,n⟩
 . exact s i j w u c a b g d e
 . rw [n]at e;exact h i w a c d e
 . rw [l]at d;exact h j u b c e d
 . exact g (k.trans m.symm)
def WrI(h:Hp)(w:Value)(l:List Int):Prop:=au h 1 (encI .i64) w l/\(l≠ []-> ∃b,w=.slice (some ⟨b,0,some 1⟩) l.length l.length/\Row h b (ints l) 1)
theorem WrI.mo{M:Nat->Prop}{h h':Hp}{w:Value}{l:List Int}(r:WrI h w l)(g:Mo M h h')(a: ∀b,aq w b-> ¬M b):WrI h' w l:=
 ⟨r.1.mo g a,fun c=>by obtain⟨b,e,k⟩:=r.2 c;exact⟨b,e,g.has (o:=.row _ 1) k (a b (by rw [e];rfl))⟩⟩
theorem WrI.gr{h h':Hp}{w:Value}{l:List Int}(r:WrI h w l)(g:Gr h h'):WrI h' w l:=r.mo (M:=NoM) g.fr (fun _ _ h=>h)
theorem zD{h0:Hp}(l:h0.t.Sized h0.n){v:Value}{xs:List Int}(m:au h0 1 (encI .i64) v xs)(q:xs.length<1000000):Ret zM 105 [v] h0 fun r h'=>Gr h0 h'/\WrI h' r xs/\ ∀c,aq r c->h0.n<=c:=by
 have S:=Si l
 by_cases f:xs=[]
 . obtain⟨r,h',t,g,u,i⟩:=qv l m q
   exact⟨r,h',t,g,⟨u,fun h=>absurd f h⟩,i⟩
 rcases m with⟨rfl,rfl⟩|⟨b,o,s,c,rfl,w,x⟩
 . exact absurd rfl f
 . refine ab (n:=8) (rs:=[.tmp 2]) rfl Tryz.e105 rfl rfl rfl (lbt rfl) ?_
   simp only [BS,LB,Nat.reduceLT,Nat.reduceEqDiff,F1c]
   refine ae (co (by exact Tryz.t24.1) (by exact XF) (by decide) (by rfl)) S ?_;clear S;intro h z S p;simp only [LC,bA,bS,ah,Nat.reduceMul,Nat.reduceAdd,Xt,Xn,Xl,Xu]at S
   simp only [BS,LB,Nat.reduceLT,Nat.reduceEqDiff]
   have j:au h 1 (encI .i64) (.slice (some ⟨b,o,s⟩) xs.length c) xs:=.inr ⟨b,o,s,c,rfl,w,S.old x (fun h=>h)⟩
   refine eh (S.clone (n:=0) (vs:=[]) Tryz.t24.1 XF (by decide) Tryz.t24.2.2.2.2.2 j.src (bw (dh .i64) xs).symm rfl (by decide) (by rw [bw (dh .i64)];simp;omega) (S.row m0)) ?_
   rintro h' v (⟨e,_⟩|⟨a,rfl,k⟩)
   . exact absurd (List.length_eq_zero_iff.1 e) f
   simp only [BS,LB,ac,Nat.reduceLT,Nat.reduceEqDiff]
   have d:Row h' a (ints xs) 1:=k.row m0
   have y:h0.n<=a:=(k.own _ m0).1.elim (fun h=>h) (fun h=>h.elim)
   refine⟨k.gr,⟨.inr ⟨a,0,some 1,xs.length,rfl,Xm _,?_⟩,fun _=>⟨a,rfl,d⟩⟩,fun c i=>?_⟩
   . rw [d.load (by rw [cC];omega),List.drop_zero,Xl,<-cC xs,List.take_length];rfl
   . obtain rfl:a=c:=i
     exact y
def LLD(h:Hp)(m k:Nat)(v:Value)(n:Nat)(R:Nat->List Int):Prop:=
 ∃a:List Value,au h 1 encV v a/\a.length=n/\(∀c,aq v c->m<=c/\c<k)/\(∀(i:Nat) w,a[i]? =some w->WrI h w (R i)/\ ∀c,aq w c->m<=c/\c<k/\ ¬aq v c)/\Sep a
theorem LLD.ll{h:Hp}{m k n:Nat}{v:Value}{R:Nat->List Int}(r:LLD h m k v n R):ee h m v n R:=by
 obtain⟨g,a,b,c,d,_⟩:=r
 exact⟨g,a,b,fun x e=>(c x e).1,fun i w f=>⟨(d i w f).1.1,fun x e=>((d i w f).2 x e).1⟩⟩
theorem LLD.mo{M:Nat->Prop}{h h':Hp}{m k n:Nat}{v:Value}{R:Nat->List Int}(r:LLD h m k v n R)(g:Mo M h h')(o: ∀b,M b->b<m\/k<=b):LLD h' m k v n R:=by
 obtain⟨q,a,b,c,d,e⟩:=r
 exact⟨q,a.mo g (fun x f j=>by have:=c x f;have:=o x j;omega),b,c,fun i w l=>⟨(d i w l).1.mo g (fun x f j=>by have p:=(d i w l).2 x f;have s:=p.1;have t:=p.2.1;have:=o x j;omega),(d i w l).2⟩,e⟩
theorem LLD.gr{h h':Hp}{m k n:Nat}{v:Value}{R:Nat->List Int}(r:LLD h m k v n R)(g:Gr h h'):LLD h' m k v n R:=r.mo (M:=NoM) g.fr (fun _ h=>h.elim)
theorem LLD.form{h:Hp}{m k n:Nat}{v:Value}{R:Nat->List Int}(r:LLD h m k v n R): ∃a n c,v=.slice a n c:=by
 obtain⟨_,s,_⟩:=r
 rcases s with⟨rfl,_⟩|⟨b,o,s,c,rfl,_⟩<;>exact⟨_,_,_,rfl⟩
theorem mem_gkey{M:Nat->Prop}{h0 h:Hp}{v:Value}{a:List Value}{k:Nat}(S:St M h0 h [] [(v,k,a)]){c:Nat}(d:aq v c):c∈keys [] [(v,k,a)]:=by
 have f:dM (v,k,a)=some c:=by
  rcases(S.gown (v,k,a) (List.mem_singleton.2 rfl)).1 with⟨e,_⟩|⟨b,n,e,_⟩
  . rw [show v=_ from e]at d;exact d.elim
  . have g:v=.slice (some ⟨b,0,some k⟩) n n:=e
    rw [g]at d⊢
    exact congrArg some d
 exact List.mem_filterMap.2 ⟨_,List.mem_singleton.2 rfl,f⟩
theorem we {h0:Hp} (X:h0.t.Sized h0.n) {v:Value} {m n:Nat} {R:Nat->List Int} (M:ee h0 m v n R) (hn:n<1000) (Y: ∀i,i<n->(R i).length<1000000):
 Ret zM 70 [v] h0 fun r h'=>Gr h0 h'/\LLD h' h0.n h'.n r n R:=by
 have S:=Si X
 refine ab (n:=18) (rs:=[.tmp 2]) rfl Tryz.e70 rfl rfl rfl (lbt rfl) ?_
 simp only [BS,LB,Nat.reduceLT,Nat.reduceEqDiff,F0s,M.lenq]
 replace S:=S.nilG (k:=1)
 refine bL (fun(i:Nat) C h=>i<=n/\ ∃(f:List Value) (s:Value),St NoM h0 h [] [(s,1,f)]/\f.length=i/\(∀j w,f[j]? =some w->WrI h w (R j)/\ ∀c,aq w c->h0.n<=c/\c∉keys [] [(s,1,f)])/\Sep f/\C 2=s/\C 5=v/\C 6=.int .i64 n/\C 7=.int .i64 i) (fun i=>n-i) ?_ 0 _ _ ?_
 . clear S
   intro i Z C h ⟨hi,f,s,S,t,hc,hd,r2,r5,r6,r7⟩
   have ad:Fl s:=by
    rcases(S.gown _ m0).1 with⟨e,_⟩|⟨_,_,e,_⟩
    . rw [show s=_ from e];exact bq
    . rw [show s=_ from e];exact bq
   by_cases hlt:i<n
   . obtain⟨x,⟨q,o,D,G⟩,N,_⟩:=(M.gr S.gr).row hlt
     have fx:=N.fl
     have w:an .i64 ((i:Int)+1)=((i+1:Nat):Int):=by rw [wrap64]<;>omega
     simp only [BS,LB,Nat.reduceLT,Nat.reduceEqDiff,F0s,r2,r5,r6,r7,aK,hlt,D,G]
     have H:=S
     refine step_ret (zD S.ok N (Y i hlt)) ?_
     rintro y O ⟨g,I,J⟩
     have F:=S.call g
     obtain⟨z,A,B,rfl⟩:=I.1.form
     have fy:Fl (.slice z A B):=bq
     have l: ∀(j:Nat) u,(f++[.slice z A B])[j]? =some u->WrI O u (R j)/\ ∀c,aq u c->h0.n<=c/\c∉keys [] [(s,1,f)]/\c<O.n:=fun j u d=>by
      rcases qg d with d|⟨rfl,rfl⟩
      . obtain⟨P,Q⟩:=hc j u d
        exact⟨P.gr g,fun c a=>⟨(Q c a).1,(Q c a).2,(P.gr g).1.lt F.ok a⟩⟩
      . rw [t]
        exact⟨I,fun c a=>⟨XO H.fr.n (J c a),fun K=>by have:=H.key_lt K;have:=J c a;omega,I.1.lt F.ok a⟩⟩
     have L:=hd.push (y:=.slice z A B) fun j u d c a hy=>by
      have:=(hc j u d).1.1.lt H.ok a
      have:=J c hy
      omega
     replace S:=F.base
     simp only [BS,LB,Nat.reduceLT,Nat.reduceEqDiff]
     refine ae (co (by exact Tryz.t59.1) (by exact XB) (by decide) (by rfl)) S ?_;clear S;intro h T S U;simp only [LC,bA,bS,ah,Nat.reduceMul,Nat.reduceAdd,Xt,Xn,Xl,Xu]at S
     simp only [BS,LB,Nat.reduceLT,Nat.reduceEqDiff]
     have E:aM h 1 (.slice (some ⟨T,0,none⟩) 1 1)=some (1,[.slice z A B]):=by simp only [aM];rw [S.lds (b:=T) (o:=0) (n:=1*1) m0 (lbt rfl)];rfl
     replace S:=S.drop1
     refine eh (S.grow (j:=0) (m:=1) (new:=[.slice z A B]) rfl Tryz.t59.1 XB (by decide) Tryz.t59.2.2.2.2.2 E rfl (by decide) (by simp [fy.2.1]) (by simp;omega)) ?_
     clear S E;rintro h p S
     simp only [LC]at S
     have fv:Fl p:=by
      rcases(S.gown _ m0).1 with⟨e,_⟩|⟨_,_,e,_⟩
      . rw [show p=_ from e];exact bq
      . rw [show p=_ from e];exact bq
     simp only [BS,LB,Nat.reduceLT,Nat.reduceEqDiff,r7,w]
     refine Z (i+1) _ _ (by omega) ⟨by omega,f++[.slice z A B],p,F.rebase S,by simp [t],fun j u d=>⟨(l j u d).1.mo S.fr (fun c a=>((l j u d).2 c a).2.1),fun c a=>⟨((l j u d).2 c a).1,fun K=>?_⟩⟩,L,by simp [aa],by simp [aa,r5],by simp [aa,r6],by simp [aa]⟩
     rcases S.key_new c K with V|V
     . exact((l j u d).2 c a).2.1 V
     . have:=((l j u d).2 c a).2.2;omega
   . simp only [BS,LB,ac,Nat.reduceLT,Nat.reduceEqDiff,r2,r6,r7,aK,hlt]
     have W:=(S.gown _ m0).1.sl (py f).symm oF (by decide)
     refine⟨S.gr,f,W,by omega,fun c a=>⟨((S.gblk m0 a).1).elim (fun h=>h) (fun h=>h.elim),W.lt S.ok a⟩,fun j u d=>⟨(hc j u d).1,fun c a=>⟨((hc j u d).2 c a).1,(hc j u d).1.1.lt S.ok a,fun hv=>((hc j u d).2 c a).2 ?_⟩⟩,hd⟩
     exact mem_gkey S hv
 . exact⟨Xi _,[],_,S,rfl,fun j w t=>by simp at t,fun i j w u c t=>by simp at t,by simp [aa],by simp [aa,aZ],by simp [aa],by simp [aa]⟩
def Tryz.F0t:=aj t1<|aj t2<|aj t3<|aj t4<|aj t5<|aj t6<|aj Z3<|aj t24<|t137
def Tryz.F1d:=aj t1<|aj t2<|aj t3<|aj t4<|aj t24<|t137
def Tryz.F0u:=aj t1<|aj t2<|aj t3<|aj t4<|aj t5<|aj t6<|aj Z3<|aj t24<|aj t59<|t138
def Tryz.F1e:=aj t1<|aj t2<|aj t3<|aj t4<|aj t24<|aj t33<|aj t59<|t138
def Tryz.FG:=aj t1<|aj t2<|aj t3<|aj t4<|aj t5<|aj t24<|aj t33<|aj t51<|aj t59<|aj Z5<|aj t138<|t140
def jv(N:Nat)(l:List Int):Prop:=l.length=N/\ ∀x∈l,0<=x/\x<=72057594037927936
theorem mk11_ok{h0:Hp}(a:h0.t.Sized h0.n){x:Int}(d:0<=x/\x<=72057594037927936):bz zM 67 [.int .i64 x] h0 (.bool false):=by
 have S:=Si a
 have b: ¬x<0:=by omega
 have c: ¬72057594037927936<x:=by omega
 refine ab (n:=9) (rs:=[.tmp 2]) rfl Tryz.e67 rfl rfl rfl (lbt rfl) ?_
 simp only [BS,LB,ac,Nat.reduceLT,Nat.reduceEqDiff,b,c]
 exact S.gr
theorem mkIdx_ok{h0:Hp}(d:h0.t.Sized h0.n){v:Value}{l:List Int}(e:au h0 1 (encI .i64) v l)(k:l.length<=1000000)(f: ∀x∈l,0<=x/\x<=72057594037927936):bz zM 140 [v,.func (.func 67) #[] #[]] h0 (.int .i64 (-1)):=by
 have S:=Si d
 refine ab (n:=19) (rs:=[.tmp 4]) rfl Tryz.e140 rfl rfl rfl (lbt rfl) ?_
 simp only [BS,LB,Nat.reduceLT,Nat.reduceEqDiff,F0t,e.lenq]
 refine bL (fun(i:Nat) a h=>i<=l.length/\Gr h0 h/\a 0=v/\a 1=.func (.func 67) #[] #[]/\a 7=.int .i64 l.length/\a 8=.int .i64 i) (fun i=>l.length-i) ?_ 0 _ _ ?_
 . clear S
   intro i j a h ⟨hi,S,r0,r1,r7,r8⟩
   by_cases hlt:i<l.length
   . obtain⟨q,o,b,c⟩:=(e.gr S).ix (kd:=.i64) (dh .i64) hlt
     have w:an .i64 ((i:Int)+1)=((i+1:Nat):Int):=by rw [wrap64]<;>omega
     simp only [BS,LB,Nat.reduceLT,Nat.reduceEqDiff,F0t,r0,r1,r7,r8,aK,hlt,b,c,encI]
     refine am (mk11_ok S.ok (f _ (Xq hlt))) ?_
     intro m g
     simp only [BS,LB,Nat.reduceLT,Nat.reduceEqDiff,r8,w]
     exact j (i+1) _ _ (by omega) ⟨by omega,S.trans g,by simp [aa,r0],by simp [aa,r1],by simp [aa,r7],by simp [aa]⟩
   . simp only [BS,LB,ac,Nat.reduceLT,Nat.reduceEqDiff,r7,r8,aK,hlt]
     exact S
 . exact⟨Xi _,Gr.refl d,by simp [aa,aZ],by simp [aa,aZ,cG],by simp [aa],by simp [aa]⟩
theorem mkCf_ok{h0:Hp}(a:h0.t.Sized h0.n){v:Value}{l:List Int}(b:au h0 1 (encI .i64) v l)(c:l.length<=1000000)(d: ∀x∈l,0<=x/\x<=72057594037927936):bz zM 66 [v,.func (.func 67) #[] #[]] h0 (.bool false):=by
 have S:=Si a
 refine ab (n:=9) (rs:=[.tmp 4]) rfl Tryz.e66 rfl rfl rfl (lbt rfl) ?_
 simp only [BS,LB,Nat.reduceLT,Nat.reduceEqDiff]
 refine am (mkIdx_ok S.ok b c d) ?_;intro h g;replace S:=S.call g;clear g
 simp only [BS,LB,ac,Nat.reduceLT,Nat.reduceEqDiff,Int.reduceLE]
 exact S.gr
theorem mk1_ok{h0:Hp}(d:h0.t.Sized h0.n){b N:Nat}{v:Value}{l:List Int}(f:h0.load b 0 1=some [.int .i64 N])(a:au h0 1 (encI .i64) v l)(c:jv N l)(i:N<=1000000):bz zM 65 [v,ptrTo b] h0 (.bool false):=by
 have S:=Si d
 have e:=c.1
 subst e
 refine ab (n:=12) (rs:=[.tmp 3]) rfl Tryz.e65 rfl rfl rfl (lbt rfl) ?_
 simp only [BS,LB,Nat.reduceLT,Nat.reduceEqDiff,F1d,a.lenq,f]
 refine am (mkCf_ok S.ok a i c.2) ?_;intro h g;replace S:=S.call g;clear g
 simp only [BS,LB,ac,Nat.reduceLT,Nat.reduceEqDiff]
 exact S.gr
theorem mkIdxR_ok{h0:Hp}(e:h0.t.Sized h0.n){b N m n:Nat}{v:Value}{R:Nat->List Int}(k:h0.load b 0 1=some [.int .i64 N])(f:ee h0 m v n R)(s:n<=1000000)(l: ∀i,i<n->jv N (R i))(p:N<=1000000):bz zM 141 [v,.func (.func 65) #[] #[ptrTo b]] h0 (.int .i64 (-1)):=by
 have S:=Si e
 refine ab (n:=19) (rs:=[.tmp 4]) rfl Tryz.e141 rfl rfl rfl (lbt rfl) ?_
 simp only [BS,LB,Nat.reduceLT,Nat.reduceEqDiff,F0u,f.lenq]
 refine bL (fun(i:Nat) a h=>i<=n/\Gr h0 h/\a 0=v/\a 1=.func (.func 65) #[] #[ptrTo b]/\a 7=.int .i64 n/\a 8=.int .i64 i) (fun i=>n-i) ?_ 0 _ _ ?_
 . clear S
   intro i r a h ⟨hi,S,r0,r1,r7,r8⟩
   by_cases hlt:i<n
   . obtain⟨x,⟨q,o,c,d⟩,j,_⟩:=(f.gr S).row hlt
     have t:=j.fl
     have w:an .i64 ((i:Int)+1)=((i+1:Nat):Int):=by rw [wrap64]<;>omega
     simp only [BS,LB,Nat.reduceLT,Nat.reduceEqDiff,F0u,r0,r1,r7,r8,aK,hlt,c,d]
     refine am (mk1_ok S.ok (S.load k) j (l i hlt) p) ?_
     intro u g
     simp only [BS,LB,Nat.reduceLT,Nat.reduceEqDiff,r8,w]
     exact r (i+1) _ _ (by omega) ⟨by omega,S.trans g,by simp [aa,r0],by simp [aa,r1,ag],by simp [aa,r7],by simp [aa]⟩
   . simp only [BS,LB,ac,Nat.reduceLT,Nat.reduceEqDiff,r7,r8,aK,hlt]
     exact S
 . exact⟨Xi _,Gr.refl e,by simp [aa,aZ],by simp [aa,aZ,cG,ag],by simp [aa],by simp [aa]⟩
theorem mkCfR_ok{h0:Hp}(a:h0.t.Sized h0.n){b N m n:Nat}{v:Value}{R:Nat->List Int}(c:h0.load b 0 1=some [.int .i64 N])(d:ee h0 m v n R)(e:n<=1000000)(f: ∀i,i<n->jv N (R i))(j:N<=1000000):bz zM 69 [v,.func (.func 65) #[] #[ptrTo b]] h0 (.bool false):=by
 have S:=Si a
 refine ab (n:=9) (rs:=[.tmp 4]) rfl Tryz.e69 rfl rfl rfl (lbt rfl) ?_
 simp only [BS,LB,Nat.reduceLT,Nat.reduceEqDiff]
 refine am (mkIdxR_ok S.ok c d e f j) ?_;intro h g;replace S:=S.call g;clear g
 simp only [BS,LB,ac,Nat.reduceLT,Nat.reduceEqDiff,Int.reduceLE]
 exact S.gr
theorem mk2_ok{h0:Hp}(j:h0.t.Sized h0.n){b b5 c N m n:Nat}{v d:Value}{l:List Int}{R:Nat->List Int}(k:h0.load b5 0 1=some [d])(o:h0.load c 0 1=some [.func (.func 65) #[] #[ptrTo b]])(e:au h0 1 (encI .i64) d l)(p:h0.load b 0 1=some [.int .i64 N])(f:ee h0 m v n R)(q:n<=1000000)(a:l.length=n)(r: ∀i,i<n->jv N (R i))(s:N<=1000000):bz zM 68 [v,ptrTo b5,ptrTo c] h0 (.bool false):=by
 have S:=Si j
 have t:=e.fl
 subst a
 refine ab (n:=15) (rs:=[.tmp 4]) rfl Tryz.e68 rfl rfl rfl (lbt rfl) ?_
 simp only [BS,LB,Nat.reduceLT,Nat.reduceEqDiff,F1e,f.lenq,e.lenq,k,o]
 refine am (mkCfR_ok S.ok p f q r s) ?_;intro h g;replace S:=S.call g;clear g
 simp only [BS,LB,ac,Nat.reduceLT,Nat.reduceEqDiff]
 exact S.gr
theorem make_ok{h0:Hp}(ok:h0.t.Sized h0.n){N mT mF:Nat}{M O P:Value}{l:List Int}{R Q:Nat->List Int}(s:au h0 1 (encI .i64) M l)(T:ee h0 mT O l.length R)(U:ee h0 mF P l.length Q)(n1:1<=N)(hN:N<=100)(V:gk N l)(W: ∀i,i<l.length->jv N (R i))(X: ∀i,i<l.length->jv N (Q i)):
 Ret zM 19 [.int .i64 N,M,O,P] h0 fun r h'=>Gr h0 h'/\TabAt h' h0.n r N l R Q:=by
 have S:=Si ok
 have Y:=V.1
 have k:l.length<1000:=by omega
 have c1: ¬(N:Int)<1:=by omega
 have cm:decide (gk N l)=true:=decide_eq_true V
 have fM:=s.fl
 obtain⟨ma,mn,mc,rfl⟩:=s.form
 refine ab (n:=40) (rs:=[.tmp 8]) rfl Tryz.e19 rfl rfl rfl (lbt rfl) ?_
 simp only [BS,Nat.reduceLT]
 refine ae (aS (by intro x e;cases e)) S ?_;clear S;intro h d S Z;simp only [ah]at S
 simp only [BS,Nat.reduceLT,Nat.reduceEqDiff,if_false]
 refine ae (aS (by intro x e;cases e)) S ?_;clear S;intro h f S ad;simp only [ah]at S
 simp only [BS,LB,Nat.reduceLT,Nat.reduceEqDiff,FG]
 refine ae aA S ?_;clear S;intro h A S af
 simp only [BS,LB,Nat.reduceLT,Nat.reduceEqDiff]
 refine az (aC S (i:=0) rfl ?_ ?_ ?_ ono) ?_
 . exact(by simp only [FG])
 . exact(by exact fO)
 . exact Xf (lbt rfl)
 clear S;rintro h ⟨S,mo⟩;clear mo;simp only [LC,ah,lay,Xd,Xe,Nat.reduceAdd]at S
 have m:=S.ld (b:=d) (o:=0) m2 rfl
 have p:=S.ld (b:=f) (o:=0) m1 rfl
 have y:=S.ld (b:=A) (o:=0) m0 rfl
 simp only [BS,LB,Nat.reduceLT,Nat.reduceEqDiff,FG,m,p,c1]
 refine am (may_ok S.ok (s.gr S.gr) (by omega)) ?_;intro h g;replace S:=S.call g;clear g
 rw [cm]
 simp only [BS,LB,Nat.reduceLT,Nat.reduceEqDiff]
 have m:=S.ld (b:=d) (o:=0) m2 rfl
 have p:=S.ld (b:=f) (o:=0) m1 rfl
 have y:=S.ld (b:=A) (o:=0) m0 rfl
 refine am (mk2_ok S.ok p y (s.gr S.gr) m (T.gr S.gr) (by omega) rfl W (by omega)) ?_;intro h g;replace S:=S.call g;clear g
 simp only [BS,LB,Nat.reduceLT,Nat.reduceEqDiff]
 have m:=S.ld (b:=d) (o:=0) m2 rfl
 have p:=S.ld (b:=f) (o:=0) m1 rfl
 have y:=S.ld (b:=A) (o:=0) m0 rfl
 refine am (mk2_ok S.ok p y (s.gr S.gr) m (U.gr S.gr) (by omega) rfl X (by omega)) ?_;intro h g;replace S:=S.call g;clear g
 have m:=S.ld (b:=d) (o:=0) m2 rfl
 have p:=S.ld (b:=f) (o:=0) m1 rfl
 simp only [BS,LB,Nat.reduceLT,Nat.reduceEqDiff]
 refine aB (aG rfl) (q:=256) (ps:=[(0,6),(0,4),(0,2)]) (by kernel_rfl) ?_
 simp only [BS,LB,cls,Nat.reduceLT,Nat.reduceEqDiff,Nat.reduceAdd,Nat.reducePow,Nat.reduceDiv,Nat.reduceMod,Nat.reduceLeDiff,FG,m,p]
 refine cV (jY S.ok (dh .i64) (s.gr S.gr) (by omega)) ?_
 rintro v h ⟨g,a,nM⟩
 have e41:leaves _ _ d=true:=ar g ((S.row (b:=d) m2).lt S.ok)
 have e51:leaves _ _ f=true:=ar g ((S.row (b:=f) m1).lt S.ok)
 have k1:=S.fr.n
 have B:=fun c (j:c∈keys _ _)=>S.key_lt j
 replace S:=S.call g;clear g
 obtain⟨va,vn,vc,rfl⟩:=a.form
 simp only [BS,LB,cls,Nat.reduceLT,Nat.reduceEqDiff,Nat.reduceAdd,Nat.reducePow,Nat.reduceDiv,Nat.reduceMod,Nat.reduceLeDiff]
 refine cV (we S.ok (T.gr S.gr) k (fun i C=>by have:=(W i C).1;omega)) ?_
 rintro v h ⟨g,z⟩
 have e42:leaves _ _ d=true:=ar g ((S.row (b:=d) m2).lt S.ok)
 have e52:leaves _ _ f=true:=ar g ((S.row (b:=f) m1).lt S.ok)
 have k2:=S.fr.n
 have D:=fun c (j:c∈keys _ _)=>S.key_lt j
 replace S:=S.call g;replace a:=a.gr g;clear g
 obtain⟨ta,tn,tc,rfl⟩:=z.form
 simp only [BS,LB,cls,Nat.reduceLT,Nat.reduceEqDiff,Nat.reduceAdd,Nat.reducePow,Nat.reduceDiv,Nat.reduceMod,Nat.reduceLeDiff]
 refine cV (we S.ok (U.gr S.gr) k (fun i C=>by have:=(X i C).1;omega)) ?_
 rintro v h ⟨g,L2⟩
 have e43:leaves _ _ d=true:=ar g ((S.row (b:=d) m2).lt S.ok)
 have e53:leaves _ _ f=true:=ar g ((S.row (b:=f) m1).lt S.ok)
 have k3:=S.fr.n
 have E:=fun c (j:c∈keys _ _)=>S.key_lt j
 replace S:=S.call g;replace a:=a.gr g;replace z:=z.gr g;clear g
 obtain⟨fa,fn,fc,rfl⟩:=L2.form
 simp only [BS,LB,cls,Nat.reduceLT,Nat.reduceEqDiff,Nat.reduceAdd,Nat.reducePow,Nat.reduceDiv,Nat.reduceMod,Nat.reduceLeDiff,FG]
 have t:=S
 replace S:=S.base
 have q4:=(t.row (b:=d) m2).lt t.ok
 have q5:=(t.row (b:=f) m1).lt t.ok
 refine dC (aS (by intro x e;cases e)) S ?_;clear S;intro h b S ai F;simp only [ah]at S
 have G:d≠b:=by omega
 have H:f≠b:=by omega
 simp only [BS,LB,cls,ac,Nat.reduceLT,Nat.reduceEqDiff,Nat.reduceAdd,Nat.reducePow,Nat.reduceDiv,Nat.reduceMod,Nat.reduceLeDiff]
 refine⟨by simp only [bn,bE,aT,bJ,aV,ne_eq,not_false_eq_true,bK,bZ,bg,aX,cb,cM,aO,Nat.reduceLT,Nat.reduceEqDiff,reduceIte,Xg,ag,av e41,av e42,av e43,av e51,av e52,av e53,ib G,ib H,<-F],?_⟩
 have I:=S.fr
 have u:=a.mo I (fun c j w=>by have:=nM c j;have:=B c w;omega)
 have J:=z.mo I (fun c w=>.inl (D c w))
 have K:=L2.mo I (fun c w=>.inl (E c w))
 have L:=S.row (b:=b) m0
 replace S:=t.rebase S
 exact⟨S.gr,⟨b,_,_,_,rfl,L,u,J.ll.low k2,K.ll.low k3,(S.own _ m0).1.elim (fun h=>h) (fun h=>h.elim),fun c j=>XO k1 (nM c j)⟩⟩
def RowsIn(h:Hp)(m:Nat)(K:List Nat)(a:List Value)(R:Nat->List Int):Prop:= ∀(j:Nat) w,a[j]? =some w->au h 1 (encI .i64) w (R j)/\ ∀c,aq w c->m<=c/\c∉K
theorem RowsIn.gr{h h':Hp}{m:Nat}{K:List Nat}{a:List Value}{R:Nat->List Int}(r:RowsIn h m K a R)(g:Gr h h'):RowsIn h' m K a R:=fun j w b=>⟨(r j w b).1.gr g,(r j w b).2⟩
theorem RowsIn.push{h:Hp}{m:Nat}{K:List Nat}{a:List Value}{R:Nat->List Int}{y:Value}(r:RowsIn h m K a R)(d:au h 1 (encI .i64) y (R a.length))(e: ∀c,aq y c->m<=c/\c∉K):RowsIn h m K (a++[y]) R:=fun j w b=>by
 rcases qg b with b|⟨rfl,rfl⟩
 . exact r j w b
 . exact⟨d,e⟩
theorem RowsIn.step{h h':Hp}{m:Nat}{L L':List (Nat×Ob)}{G G':List GL}{e:List Value}{R:Nat->List Int}(r:RowsIn h m (keys L G) e R)(T:St (· ∈keys L G) h h' L' G'):RowsIn h' m (keys L' G') e R:=fun j w g=>by
 obtain⟨a,b⟩:=r j w g
 refine⟨a.mo T.fr (fun c d=>(b c d).2),fun c d=>⟨(b c d).1,fun i=>?_⟩⟩
 rcases T.key_new c i with f|f
 . exact(b c d).2 f
 . have:=a.lt T.fr.ok0 d;omega
def Tryz.Fg:=aj t1<|aj t2<|aj t3<|aj t4<|aj t5<|aj t6<|aj Z3<|aj Z4<|aj t9<|aj t10<|aj t11<|aj t12<|aj Z12<|aj Z15<|aj t15<|aj t16<|aj t17<|aj t22<|aj t23<|aj t24<|aj t26<|aj r26<|aj t33<|aj t51<|aj t59<|aj Z5<|aj t154<|aj t181<|aj t271<|aj t358<|aj Z16<|aj t372<|aj t374<|aj t376<|aj t377<|aj t378<|aj t379<|Z13
def FgS(h0 h:Hp)(i k N:Nat)(a:List Value)(d e:Value)(f g:List Value)(b c:List (List Int))(G:List GL):Prop:=
 St NoM h0 h [(i,.row [d,e] 1),(k,.row a 1)] ((d,1,f)::(e,1,g)::G)/\f.length=b.length/\g.length=c.length/\
  RowsIn h h0.n (keys [(i,Ob.row [d,e] 1),(k,.row a 1)] ((d,1,f)::(e,1,g)::G)) f (fun j=>b.getD j [])/\
  RowsIn h h0.n (keys [(i,Ob.row [d,e] 1),(k,.row a 1)] ((d,1,f)::(e,1,g)::G)) g (fun j=>c.getD j [])/\(∀r∈b,jv N r)/\(∀r∈c,jv N r)
def FgAt(h0 h:Hp)(f g N:Nat)(c:List Value)(a b:Nat):Prop:= ∃i j k l d e,FgS h0 h f g N c i j k l d e []/\d.length=a/\e.length=b
theorem gfl{M:Nat->Prop}{h0 h:Hp}{L:List (Nat×Ob)}{G:List GL}(S:St M h0 h L G){v:Value}{k:Nat}{vs:List Value}(a:(v,k,vs)∈G):Fl v:=by
 rcases(S.gown _ a).1 with⟨e,_⟩|⟨_,_,e,_⟩
 . rw [show v=_ from e];exact bq
 . rw [show v=_ from e];exact bq
theorem RowsIn.ext{h:Hp}{m:Nat}{K:List Nat}{a:List Value}{R R':Nat->List Int}(r:RowsIn h m K a R)(e: ∀j,j<a.length->R j=R' j):RowsIn h m K a R':=fun j w b=>by
 have c:=(List.getElem?_eq_some_iff.1 b).1
 rw [<-e j c];exact r j w b
theorem RowsIn.less{h:Hp}{m:Nat}{K b:List Nat}{d:List Value}{R:Nat->List Int}(r:RowsIn h m K d R)(e: ∀c∈b,c∈K):RowsIn h m b d R:=fun j w a=>⟨(r j w a).1,fun c f=>⟨((r j w a).2 c f).1,fun g=>((r j w a).2 c f).2 (e c g)⟩⟩
theorem Ag {h0:Hp} (ok:h0.t.Sized h0.n) {K L M:Value} {P U V:Int} {NL:List Int} (fB:Fl K) (fM:Fl L) (hN:SlW h0 .i64 M NL) {N:Nat} (n1:1<=N) (n2:N<=12) {vl:Value} {l:List Int} (hl:au h0 1 (encI .i64) vl l) (ml:gk N l) (l7:l.length<=7):
 Ret zM 25 [.agg ⟨[K,L,.int .u8 P,.int .u8 U,.int .i8 V,M]⟩,.int .i64 (N:Nat),vl] h0 fun r h'=>Gr h0 h'/\ ∃m R Q,TabAt h' m r N l R Q/\(∀i,i<l.length->(R i).length=N)/\ ∀i,i<l.length->(Q i).length=N:=by
 have S:=Si ok
 have fN:=hN.sl.fl
 have fl:=hl.fl
 refine ab (n:=69) (rs:=[.tmp 6]) rfl Tryz.e25 rfl rfl rfl (lbt rfl) ?_
 simp only [BS,Nat.reduceLT]
 refine ae (aS (by intro x e;cases e)) S ?_;clear S;intro h u S bf;simp only [ah]at S
 simp only [BS,Fg]
 refine ae aA S ?_;clear S;intro h z S bh
 simp only [BS]
 replace S:=S.nilG (k:=1)
 replace S:=S.nilG (k:=1)
 have PP:FgAt h0 h z u N [K,L,.int .u8 P,.int .u8 U,.int .i8 V,M] 0 0:=⟨_,_,_,_,[],[],⟨S,rfl,rfl,fun j w hw=>by simp at hw,fun j w hw=>by simp at hw,by simp,by simp⟩,rfl,rfl⟩
 clear S
 rw [bG]
 simp only [BS,LB,Nat.reduceLT,Nat.reduceEqDiff,Int.reduceLT]
 refine kz (fun d h=>FgAt h0 h z u N [K,L,.int .u8 P,.int .u8 U,.int .i8 V,M] l.length 0/\d 1=.int .i64 N/\d 2=vl/\d 3=ptrTo u/\d 7=ptrTo z/\d 8=.int .i64 0) (fun(i:Nat) d h=>i<=l.length/\FgAt h0 h z u N [K,L,.int .u8 P,.int .u8 U,.int .i8 V,M] i 0/\d 1=.int .i64 N/\d 2=vl/\d 3=ptrTo u/\d 7=ptrTo z/\d 8=.int .i64 0/\d 9=.int .i64 i) (fun i=>l.length-i) ?_ ?_ 0 ?_
 . intro i ih d h ⟨hi,PP,F,O,W,r7,r8,Y⟩
   have wi:an .i64 ((i:Int)+1)=((i+1:Nat):Int):=by rw [wrap64]<;>omega
   by_cases hlt:i<l.length
   . obtain⟨f,s,D,E,G,H,⟨S,e0,e1,B,C,q0,q1⟩,ea,eb⟩:=PP
     simp only [BS,LB,Nat.reduceLT,Nat.reduceEqDiff,Fg,O,Y,hl.lenq,aK,hlt]
     replace S:=S.nilG (k:=1)
     replace B:RowsIn h h0.n (keys [(z,Ob.row [f,s] 1),(u,.row [K,L,.int .u8 P,.int .u8 U,.int .i8 V,M] 1)] [(.slice none 0 0,1,[]),(f,1,D),(s,1,E)]) D (fun j=>G.getD j []):=B
     replace C:RowsIn h h0.n (keys [(z,Ob.row [f,s] 1),(u,.row [K,L,.int .u8 P,.int .u8 U,.int .i8 V,M] 1)] [(.slice none 0 0,1,[]),(f,1,D),(s,1,E)]) E (fun j=>H.getD j []):=C
     refine kz (fun d h=> ∃A r,St NoM h0 h [(z,Ob.row [f,s] 1),(u,.row [K,L,.int .u8 P,.int .u8 U,.int .i8 V,M] 1)] [(A,1,ints r),(f,1,D),(s,1,E)]/\RowsIn h h0.n (keys [(z,Ob.row [f,s] 1),(u,.row [K,L,.int .u8 P,.int .u8 U,.int .i8 V,M] 1)] [(A,1,ints r),(f,1,D),(s,1,E)]) D (fun j=>G.getD j [])/\RowsIn h h0.n (keys [(z,Ob.row [f,s] 1),(u,.row [K,L,.int .u8 P,.int .u8 U,.int .i8 V,M] 1)] [(A,1,ints r),(f,1,D),(s,1,E)]) E (fun j=>H.getD j [])/\jv N r/\d 1=.int .i64 N/\d 2=vl/\d 3=ptrTo u/\d 7=ptrTo z/\d 8=.int .i64 0/\d 9=.int .i64 i/\d 10=A)
      (fun(v:Nat) d h=>v<=N/\ ∃A r,St NoM h0 h [(z,Ob.row [f,s] 1),(u,.row [K,L,.int .u8 P,.int .u8 U,.int .i8 V,M] 1)] [(A,1,ints r),(f,1,D),(s,1,E)]/\RowsIn h h0.n (keys [(z,Ob.row [f,s] 1),(u,.row [K,L,.int .u8 P,.int .u8 U,.int .i8 V,M] 1)] [(A,1,ints r),(f,1,D),(s,1,E)]) D (fun j=>G.getD j [])/\RowsIn h h0.n (keys [(z,Ob.row [f,s] 1),(u,.row [K,L,.int .u8 P,.int .u8 U,.int .i8 V,M] 1)] [(A,1,ints r),(f,1,D),(s,1,E)]) E (fun j=>H.getD j [])/\jv v r/\d 1=.int .i64 N/\d 2=vl/\d 3=ptrTo u/\d 7=ptrTo z/\d 8=.int .i64 0/\d 9=.int .i64 i/\d 10=A/\d 11=.int .i64 v) (fun v=>N-v) ?_ ?_ 0 ?_
     . intro v a0 d h ⟨hv,A,r,S,B,C,hr,F,O,W,r7,r8,Y,I,J⟩
       have wv:an .i64 ((v:Int)+1)=((v+1:Nat):Int):=by rw [wrap64]<;>omega
       by_cases ai:v<N
       . have fr:=gfl S m0
         simp only [BS,LB,Nat.reduceLT,Nat.reduceEqDiff,Fg,F,W,J,aK,ai,hN.sl.lenq,S.ld (b:=u) (o:=5) m1 rfl]
         refine qc (fun t h'=>h'=h/\t 1=.int .i64 N/\t 2=vl/\t 3=ptrTo u/\t 7=ptrTo z/\t 8=.int .i64 0/\t 9=.int .i64 i/\t 10=A/\t 11=.int .i64 v/\ ∃x:Int,t 12=.int .i64 x) ?_ ?_ ?_
         . intro X
           have ak:0<NL.length:=by have:=of_decide_eq_true X;omega
           have a6:i*N<=7*12:=Nat.mul_le_mul (by omega) n2
           have u1:an .i64 (5*0)=0:=rfl
           obtain⟨p,hp⟩: ∃p:Nat,p=i*N:=⟨_,rfl⟩
           obtain⟨p1,a7⟩: ∃p1:Nat,p1=0+p:=⟨_,rfl⟩
           obtain⟨p2,ba⟩: ∃p2:Nat,p2=p1+v:=⟨_,rfl⟩
           have u2:an .i64 ((i:Int)*(N:Int))=(p:Int):=by rw [show(i:Int)*(N:Int)=((i*N:Nat):Int) by push_cast;rfl,<-hp,wrap64]<;>omega
           have u3:an .i64 (0+(p:Int))=(p1:Int):=by rw [wrap64]<;>omega
           have bb:an .i64 (p:Int)=(p:Int):=by rw [wrap64]<;>omega
           have u4:an .i64 ((p1:Int)+(v:Int))=(p2:Int):=by rw [wrap64]<;>omega
           have nz:(NL.length:Int)≠0:=by omega
           have tm:(p2:Int).tmod (NL.length:Int)=((p2%NL.length:Nat):Int):=by rw [XC (by omega)];exact(Int.natCast_emod _ _).symm
           have al:p2%NL.length<NL.length:=XE _ ak
           obtain⟨cc,oo,ax,a1⟩:=(hN.sl.gr S.gr).ix (kd:=.i64) (dh .i64) al
           simp only [BS]
           refine aB (aG rfl) (q:=0) (ps:=[]) (by kernel_rfl) ?_
           simp only [BS,LB,cls,Nat.reduceLT,Nat.reduceEqDiff,Nat.reduceAdd,Nat.reducePow,Nat.reduceDiv,Nat.reduceMod,Nat.reduceLeDiff,Fg,F,W,r8,Y,J,u1,u2,u3,u4,hN.sl.lenq,mO nz,tm,ax,a1,encI,S.ld (b:=u) (o:=5) m1 rfl]
           exact dX ⟨rfl,by simp [aa,F],by simp [aa,O],by simp [aa,W,ag],by simp [aa,r7,ag],by simp [aa,r8],by simp [aa,Y],by simp [aa,I],by simp [aa,J],NL[p2%NL.length],by simp [aa]⟩
         . intro X
           simp only [BS]
           exact dX ⟨rfl,by simp [aa,F],by simp [aa,O],by simp [aa,W,ag],by simp [aa,r7,ag],by simp [aa,r8],by simp [aa,Y],by simp [aa,I],by simp [aa,J],0,by simp [aa]⟩
         . rintro t h' ⟨rfl,F,O,W,r7,r8,Y,I,J,x,a2⟩
           have S1:=S
           have Z:=B
           have ad:=C
           replace S:=S1.base
           simp only [BS,LB,Nat.reduceLT,Nat.reduceEqDiff,I,a2]
           refine ae (co (by exact Tryz.t24.1) (by exact XF) (by decide) (by rfl)) S ?_;clear S;intro h bt S ay;simp only [LC,bA,bS,ah,Nat.reduceMul,Nat.reduceAdd,Xt,Xn,Xl,Xu]at S
           simp only [BS,LB,Nat.reduceLT,Nat.reduceEqDiff]
           have af:aM h 1 (.slice (some ⟨bt,0,none⟩) 1 1)=some (1,ints [min (max x 0) 72057594037927936]):=by simp only [aM];rw [S.lds (b:=bt) (o:=0) (n:=1*1) m0 (lbt rfl)];rfl
           replace S:=S.drop1
           refine eh (S.grow (j:=0) (m:=1) (new:=ints [min (max x 0) 72057594037927936]) rfl Tryz.t24.1 XF (by decide) Tryz.t24.2.2.2.2.2 af rfl (by decide) rfl (by rw [cC,cC];have:=hr.1;simp;omega)) ?_
           clear S af;rintro h a3 S
           rw [<-kA]at S
           simp only [LC]at S
           replace B:=Z.step S
           replace C:=ad.step S
           replace S:=S1.rebase S
           clear S1 Z ad
           simp only [BS,LB,Nat.reduceLT,Nat.reduceEqDiff,J,wv]
           refine a0 (v+1) _ _ (by omega) ⟨by omega,a3,r++[min (max x 0) 72057594037927936],S,B,C,⟨by rw [Xj,hr.1];rfl,fun y hy=>?_⟩,by simp [aa,F],by simp [aa,O],by simp [aa,W,ag],by simp [aa,r7,ag],by simp [aa,r8],by simp [aa,Y],by simp [aa],by simp [aa]⟩
           rcases List.mem_append.1 hy with hy|hy
           . exact hr.2 y hy
           . rw [List.mem_singleton.1 hy];omega
       . obtain rfl:v=N:=by omega
         simp only [BS,LB,Nat.reduceLT,Nat.reduceEqDiff,F,J,aK,ai]
         exact dX ⟨A,r,S,B,C,hr,by simp [aa,F],by simp [aa,O],by simp [aa,W,ag],by simp [aa,r7,ag],by simp [aa,r8],by simp [aa,Y],by simp [aa,I]⟩
     . rintro d h ⟨A,r,S,B,C,hr,F,O,W,r7,r8,Y,I⟩
       have fr:=gfl S m0
       have f0:=gfl S m1
       have f1:=gfl S m2
       have sy:au h 1 (encI .i64) A r:=(S.gown _ m0).1.sl rfl (fun _=>rfl) (by decide)
       have cy: ∀c,aq A c->h0.n<=c/\c∉keys [(z,Ob.row [f,s] 1),(u,.row [K,L,.int .u8 P,.int .u8 U,.int .i8 V,M] 1)] [(f,1,D),(s,1,E)]:=fun c X=>by
        refine⟨((S.gblk m0 X).1).elim id (fun h=>h.elim),fun hk=>?_⟩
        have ap:=S.apart
        have hg:dM (A,1,ints r)=some c:=my (S.gown _ m0).1 X
        simp only [keys,Xr,XG,XN,hg]at ap hk
        rw [List.nodup_append]at ap
        rcases List.mem_append.1 hk with hk|hk
        . exact ap.2.2 c hk c Xh rfl
        . exact(List.nodup_cons.1 ap.2.1).1 hk
       have aL: ∀c,c∈keys [(z,Ob.row [f,s] 1),(u,.row [K,L,.int .u8 P,.int .u8 U,.int .i8 V,M] 1)] [(f,1,D),(s,1,E)]->c∈keys [(z,Ob.row [f,s] 1),(u,.row [K,L,.int .u8 P,.int .u8 U,.int .i8 V,M] 1)] [(A,1,ints r),(f,1,D),(s,1,E)]:=fun c X=>by
        rcases List.mem_append.1 X with X|X
        . exact Xy _ X
        . obtain⟨a,ha,e⟩:=List.mem_filterMap.1 X
          exact XL _ (List.mem_filterMap.2 ⟨a,Xb _ ha,e⟩)
       replace S:=S.sub (List.Sublist.refl _) (XK _ _)
       replace B:=B.less aL
       replace C:=C.less aL
       replace B:=(B.ext (R':=fun j=>(G++[r]).getD j []) (fun j hj=>by simp [Xc,Xs (show j<G.length by omega)])).push (y:=A) (by rw [e0];simpa using sy) cy
       obtain⟨ya,yn,yc,rfl⟩:=sy.form
       have S1:=S
       have Z:=B
       have ad:=C
       replace S:=S1.base
       simp only [BS,LB,Nat.reduceLT,Nat.reduceEqDiff,Int.reduceToNat,Int.reduceLE,Int.reduceLT,zN,Fg,r7,r8,I,S.ld (b:=z) (o:=0) m0 rfl]
       refine ae (co (by exact Tryz.t59.1) (by exact XB) (by decide) (by rfl)) S ?_;clear S;intro h bt S ay;simp only [LC,bA,bS,ah,Nat.reduceMul,Nat.reduceAdd,Xt,Xn,Xl,Xu]at S
       simp only [BS,LB,Nat.reduceLT,Nat.reduceEqDiff]
       have af:aM h 1 (.slice (some ⟨bt,0,none⟩) 1 1)=some (1,[.slice ya yn yc]):=by simp only [aM];rw [S.lds (b:=bt) (o:=0) (n:=1*1) m0 (lbt rfl)];rfl
       replace S:=S.drop1
       refine eh (S.grow (j:=0) (m:=1) (new:=[.slice ya yn yc]) rfl Tryz.t59.1 XB (by decide) Tryz.t59.2.2.2.2.2 af rfl (by decide) (by simp [fr.2.1]) (by simp;omega)) ?_
       clear S af;rintro h bc S
       simp only [LC]at S
       have fv:=gfl S m0
       simp only [BS,LB,Nat.reduceLT,Nat.reduceEqDiff,Int.reduceToNat,Int.reduceLE,Int.reduceLT,zN,Fg,r7]
       refine az (aC S (i:=0) rfl Tryz.t59.2.2.1 fv (Xf (lbt rfl)) ono) ?_
       clear S;rintro h ⟨S,_⟩
       simp only [LC]at S
       replace B:=Z.step S
       replace C:=ad.step S
       replace S:=S1.rebase S
       clear S1 Z ad
       simp only [BS,LB,Nat.reduceLT,Nat.reduceEqDiff,Y,wi]
       exact ih (i+1) _ _ (by omega) ⟨by omega,⟨_,_,_,_,G++[r],H,⟨S,by simp [e0],e1,B,C,fun x hx=>(List.mem_append.1 hx).elim (q0 x) (fun h=>by rw [List.mem_singleton.1 h];exact hr),q1⟩,by simp [ea],eb⟩,by simp [aa,F],by simp [aa,O],by simp [aa,W,ag],by simp [aa,r7,ag],by simp [aa,r8],by simp [aa]⟩
     . exact⟨Xi _,_,[],S,B,C,⟨rfl,by simp⟩,by simp [aa,F],by simp [aa,O],by simp [aa,W,ag],by simp [aa,r7,ag],by simp [aa,r8],by simp [aa,Y],by simp [aa],by simp [aa]⟩
   . obtain rfl:i=l.length:=by omega
     simp only [BS,LB,Nat.reduceLT,Nat.reduceEqDiff,Fg,O,Y,hl.lenq,aK,hlt]
     exact dX ⟨PP,by simp [aa,F],by simp [aa,O],by simp [aa,W,ag],by simp [aa,r7,ag],by simp [aa,r8]⟩
 rotate_left
 . exact⟨Xi _,PP,by simp [aa,cD],by simp [aa,cD],by simp [aa,ag],by simp [aa,ag],by simp [aa],by simp [aa]⟩
 intro d h ⟨PP,F,O,W,r7,r8⟩
 have a4:an .i64 1=1:=rfl
 have a5:an .i64 2=2:=rfl
 simp only [BS,LB,Nat.reduceLT,Nat.reduceEqDiff,Int.reduceAdd,r8,a4]
 rw [bG]
 simp only [BS,LB,Nat.reduceLT,Nat.reduceEqDiff,Int.reduceLT,r8]
 refine kz (fun d h=>FgAt h0 h z u N [K,L,.int .u8 P,.int .u8 U,.int .i8 V,M] l.length l.length/\d 1=.int .i64 N/\d 2=vl/\d 3=ptrTo u/\d 7=ptrTo z/\d 8=.int .i64 1) (fun(i:Nat) d h=>i<=l.length/\FgAt h0 h z u N [K,L,.int .u8 P,.int .u8 U,.int .i8 V,M] l.length i/\d 1=.int .i64 N/\d 2=vl/\d 3=ptrTo u/\d 7=ptrTo z/\d 8=.int .i64 1/\d 9=.int .i64 i) (fun i=>l.length-i) ?_ ?_ 0 ?_
 . intro i ih d h ⟨hi,PP,F,O,W,r7,r8,Y⟩
   have wi:an .i64 ((i:Int)+1)=((i+1:Nat):Int):=by rw [wrap64]<;>omega
   by_cases hlt:i<l.length
   . obtain⟨f,s,D,E,G,H,⟨S,e0,e1,B,C,q0,q1⟩,ea,eb⟩:=PP
     simp only [BS,LB,Nat.reduceLT,Nat.reduceEqDiff,Fg,O,Y,hl.lenq,aK,hlt]
     replace S:=S.nilG (k:=1)
     replace B:RowsIn h h0.n (keys [(z,Ob.row [f,s] 1),(u,.row [K,L,.int .u8 P,.int .u8 U,.int .i8 V,M] 1)] [(.slice none 0 0,1,[]),(f,1,D),(s,1,E)]) D (fun j=>G.getD j []):=B
     replace C:RowsIn h h0.n (keys [(z,Ob.row [f,s] 1),(u,.row [K,L,.int .u8 P,.int .u8 U,.int .i8 V,M] 1)] [(.slice none 0 0,1,[]),(f,1,D),(s,1,E)]) E (fun j=>H.getD j []):=C
     refine kz (fun d h=> ∃A r,St NoM h0 h [(z,Ob.row [f,s] 1),(u,.row [K,L,.int .u8 P,.int .u8 U,.int .i8 V,M] 1)] [(A,1,ints r),(f,1,D),(s,1,E)]/\RowsIn h h0.n (keys [(z,Ob.row [f,s] 1),(u,.row [K,L,.int .u8 P,.int .u8 U,.int .i8 V,M] 1)] [(A,1,ints r),(f,1,D),(s,1,E)]) D (fun j=>G.getD j [])/\RowsIn h h0.n (keys [(z,Ob.row [f,s] 1),(u,.row [K,L,.int .u8 P,.int .u8 U,.int .i8 V,M] 1)] [(A,1,ints r),(f,1,D),(s,1,E)]) E (fun j=>H.getD j [])/\jv N r/\d 1=.int .i64 N/\d 2=vl/\d 3=ptrTo u/\d 7=ptrTo z/\d 8=.int .i64 1/\d 9=.int .i64 i/\d 10=A)
      (fun(v:Nat) d h=>v<=N/\ ∃A r,St NoM h0 h [(z,Ob.row [f,s] 1),(u,.row [K,L,.int .u8 P,.int .u8 U,.int .i8 V,M] 1)] [(A,1,ints r),(f,1,D),(s,1,E)]/\RowsIn h h0.n (keys [(z,Ob.row [f,s] 1),(u,.row [K,L,.int .u8 P,.int .u8 U,.int .i8 V,M] 1)] [(A,1,ints r),(f,1,D),(s,1,E)]) D (fun j=>G.getD j [])/\RowsIn h h0.n (keys [(z,Ob.row [f,s] 1),(u,.row [K,L,.int .u8 P,.int .u8 U,.int .i8 V,M] 1)] [(A,1,ints r),(f,1,D),(s,1,E)]) E (fun j=>H.getD j [])/\jv v r/\d 1=.int .i64 N/\d 2=vl/\d 3=ptrTo u/\d 7=ptrTo z/\d 8=.int .i64 1/\d 9=.int .i64 i/\d 10=A/\d 11=.int .i64 v) (fun v=>N-v) ?_ ?_ 0 ?_
     . intro v a0 d h ⟨hv,A,r,S,B,C,hr,F,O,W,r7,r8,Y,I,J⟩
       have wv:an .i64 ((v:Int)+1)=((v+1:Nat):Int):=by rw [wrap64]<;>omega
       by_cases ai:v<N
       . have fr:=gfl S m0
         simp only [BS,LB,Nat.reduceLT,Nat.reduceEqDiff,Fg,F,W,J,aK,ai,hN.sl.lenq,S.ld (b:=u) (o:=5) m1 rfl]
         refine qc (fun t h'=>h'=h/\t 1=.int .i64 N/\t 2=vl/\t 3=ptrTo u/\t 7=ptrTo z/\t 8=.int .i64 1/\t 9=.int .i64 i/\t 10=A/\t 11=.int .i64 v/\ ∃x:Int,t 12=.int .i64 x) ?_ ?_ ?_
         . intro X
           have ak:0<NL.length:=by have:=of_decide_eq_true X;omega
           have a6:i*N<=7*12:=Nat.mul_le_mul (by omega) n2
           have u1:an .i64 (5*1)=5:=rfl
           obtain⟨p,hp⟩: ∃p:Nat,p=i*N:=⟨_,rfl⟩
           obtain⟨p1,a7⟩: ∃p1:Nat,p1=5+p:=⟨_,rfl⟩
           obtain⟨p2,ba⟩: ∃p2:Nat,p2=p1+v:=⟨_,rfl⟩
           have u2:an .i64 ((i:Int)*(N:Int))=(p:Int):=by rw [show(i:Int)*(N:Int)=((i*N:Nat):Int) by push_cast;rfl,<-hp,wrap64]<;>omega
           have u3:an .i64 (5+(p:Int))=(p1:Int):=by rw [wrap64]<;>omega
           have bb:an .i64 (p:Int)=(p:Int):=by rw [wrap64]<;>omega
           have u4:an .i64 ((p1:Int)+(v:Int))=(p2:Int):=by rw [wrap64]<;>omega
           have nz:(NL.length:Int)≠0:=by omega
           have tm:(p2:Int).tmod (NL.length:Int)=((p2%NL.length:Nat):Int):=by rw [XC (by omega)];exact(Int.natCast_emod _ _).symm
           have al:p2%NL.length<NL.length:=XE _ ak
           obtain⟨cc,oo,ax,a1⟩:=(hN.sl.gr S.gr).ix (kd:=.i64) (dh .i64) al
           simp only [BS]
           refine aB (aG rfl) (q:=0) (ps:=[]) (by kernel_rfl) ?_
           simp only [BS,LB,cls,Nat.reduceLT,Nat.reduceEqDiff,Nat.reduceAdd,Nat.reducePow,Nat.reduceDiv,Nat.reduceMod,Nat.reduceLeDiff,Fg,F,W,r8,Y,J,u1,u2,u3,u4,hN.sl.lenq,mO nz,tm,ax,a1,encI,S.ld (b:=u) (o:=5) m1 rfl]
           exact dX ⟨rfl,by simp [aa,F],by simp [aa,O],by simp [aa,W,ag],by simp [aa,r7,ag],by simp [aa,r8],by simp [aa,Y],by simp [aa,I],by simp [aa,J],NL[p2%NL.length],by simp [aa]⟩
         . intro X
           simp only [BS]
           exact dX ⟨rfl,by simp [aa,F],by simp [aa,O],by simp [aa,W,ag],by simp [aa,r7,ag],by simp [aa,r8],by simp [aa,Y],by simp [aa,I],by simp [aa,J],0,by simp [aa]⟩
         . rintro t h' ⟨rfl,F,O,W,r7,r8,Y,I,J,x,a2⟩
           have S1:=S
           have Z:=B
           have ad:=C
           replace S:=S1.base
           simp only [BS,LB,Nat.reduceLT,Nat.reduceEqDiff,I,a2]
           refine ae (co (by exact Tryz.t24.1) (by exact XF) (by decide) (by rfl)) S ?_;clear S;intro h bt S ay;simp only [LC,bA,bS,ah,Nat.reduceMul,Nat.reduceAdd,Xt,Xn,Xl,Xu]at S
           simp only [BS,LB,Nat.reduceLT,Nat.reduceEqDiff]
           have af:aM h 1 (.slice (some ⟨bt,0,none⟩) 1 1)=some (1,ints [min (max x 0) 72057594037927936]):=by simp only [aM];rw [S.lds (b:=bt) (o:=0) (n:=1*1) m0 (lbt rfl)];rfl
           replace S:=S.drop1
           refine eh (S.grow (j:=0) (m:=1) (new:=ints [min (max x 0) 72057594037927936]) rfl Tryz.t24.1 XF (by decide) Tryz.t24.2.2.2.2.2 af rfl (by decide) rfl (by rw [cC,cC];have:=hr.1;simp;omega)) ?_
           clear S af;rintro h a3 S
           rw [<-kA]at S
           simp only [LC]at S
           replace B:=Z.step S
           replace C:=ad.step S
           replace S:=S1.rebase S
           clear S1 Z ad
           simp only [BS,LB,Nat.reduceLT,Nat.reduceEqDiff,J,wv]
           refine a0 (v+1) _ _ (by omega) ⟨by omega,a3,r++[min (max x 0) 72057594037927936],S,B,C,⟨by rw [Xj,hr.1];rfl,fun y hy=>?_⟩,by simp [aa,F],by simp [aa,O],by simp [aa,W,ag],by simp [aa,r7,ag],by simp [aa,r8],by simp [aa,Y],by simp [aa],by simp [aa]⟩
           rcases List.mem_append.1 hy with hy|hy
           . exact hr.2 y hy
           . rw [List.mem_singleton.1 hy];omega
       . obtain rfl:v=N:=by omega
         simp only [BS,LB,Nat.reduceLT,Nat.reduceEqDiff,F,J,aK,ai]
         exact dX ⟨A,r,S,B,C,hr,by simp [aa,F],by simp [aa,O],by simp [aa,W,ag],by simp [aa,r7,ag],by simp [aa,r8],by simp [aa,Y],by simp [aa,I]⟩
     . rintro d h ⟨A,r,S,B,C,hr,F,O,W,r7,r8,Y,I⟩
       have fr:=gfl S m0
       have f0:=gfl S m1
       have f1:=gfl S m2
       have sy:au h 1 (encI .i64) A r:=(S.gown _ m0).1.sl rfl (fun _=>rfl) (by decide)
       have cy: ∀c,aq A c->h0.n<=c/\c∉keys [(z,Ob.row [f,s] 1),(u,.row [K,L,.int .u8 P,.int .u8 U,.int .i8 V,M] 1)] [(f,1,D),(s,1,E)]:=fun c X=>by
        refine⟨((S.gblk m0 X).1).elim id (fun h=>h.elim),fun hk=>?_⟩
        have ap:=S.apart
        have hg:dM (A,1,ints r)=some c:=my (S.gown _ m0).1 X
        simp only [keys,Xr,XG,XN,hg]at ap hk
        rw [List.nodup_append]at ap
        rcases List.mem_append.1 hk with hk|hk
        . exact ap.2.2 c hk c Xh rfl
        . exact(List.nodup_cons.1 ap.2.1).1 hk
       have aL: ∀c,c∈keys [(z,Ob.row [f,s] 1),(u,.row [K,L,.int .u8 P,.int .u8 U,.int .i8 V,M] 1)] [(f,1,D),(s,1,E)]->c∈keys [(z,Ob.row [f,s] 1),(u,.row [K,L,.int .u8 P,.int .u8 U,.int .i8 V,M] 1)] [(A,1,ints r),(f,1,D),(s,1,E)]:=fun c X=>by
        rcases List.mem_append.1 X with X|X
        . exact Xy _ X
        . obtain⟨a,ha,e⟩:=List.mem_filterMap.1 X
          exact XL _ (List.mem_filterMap.2 ⟨a,Xb _ ha,e⟩)
       replace S:=S.sub (List.Sublist.refl _) (XK _ _)
       replace B:=B.less aL
       replace C:=C.less aL
       replace C:=(C.ext (R':=fun j=>(H++[r]).getD j []) (fun j hj=>by simp [Xc,Xs (show j<H.length by omega)])).push (y:=A) (by rw [e1];simpa using sy) cy
       obtain⟨ya,yn,yc,rfl⟩:=sy.form
       have S1:=S
       have Z:=B
       have ad:=C
       replace S:=S1.base
       simp only [BS,LB,Nat.reduceLT,Nat.reduceEqDiff,Int.reduceToNat,Int.reduceLE,Int.reduceLT,zN,Fg,r7,r8,I,S.ld (b:=z) (o:=1) m0 rfl]
       refine ae (co (by exact Tryz.t59.1) (by exact XB) (by decide) (by rfl)) S ?_;clear S;intro h bt S ay;simp only [LC,bA,bS,ah,Nat.reduceMul,Nat.reduceAdd,Xt,Xn,Xl,Xu]at S
       simp only [BS,LB,Nat.reduceLT,Nat.reduceEqDiff]
       have af:aM h 1 (.slice (some ⟨bt,0,none⟩) 1 1)=some (1,[.slice ya yn yc]):=by simp only [aM];rw [S.lds (b:=bt) (o:=0) (n:=1*1) m0 (lbt rfl)];rfl
       replace S:=S.drop1
       refine eh (S.grow (j:=1) (m:=1) (new:=[.slice ya yn yc]) rfl Tryz.t59.1 XB (by decide) Tryz.t59.2.2.2.2.2 af rfl (by decide) (by simp [fr.2.1]) (by simp;omega)) ?_
       clear S af;rintro h bc S
       simp only [LC]at S
       have fv:=gfl S m1
       simp only [BS,LB,Nat.reduceLT,Nat.reduceEqDiff,Int.reduceToNat,Int.reduceLE,Int.reduceLT,zN,Fg,r7]
       refine az (aC S (i:=0) rfl Tryz.t59.2.2.1 fv (Xf (lbt rfl)) ono) ?_
       clear S;rintro h ⟨S,_⟩
       simp only [LC]at S
       replace B:=Z.step S
       replace C:=ad.step S
       replace S:=S1.rebase S
       clear S1 Z ad
       simp only [BS,LB,Nat.reduceLT,Nat.reduceEqDiff,Y,wi]
       exact ih (i+1) _ _ (by omega) ⟨by omega,⟨_,_,_,_,G,H++[r],⟨S,e0,by simp [e1],B,C,q0,fun x hx=>(List.mem_append.1 hx).elim (q1 x) (fun h=>by rw [List.mem_singleton.1 h];exact hr)⟩,ea,by simp [eb]⟩,by simp [aa,F],by simp [aa,O],by simp [aa,W,ag],by simp [aa,r7,ag],by simp [aa,r8],by simp [aa]⟩
     . exact⟨Xi _,_,[],S,B,C,⟨rfl,by simp⟩,by simp [aa,F],by simp [aa,O],by simp [aa,W,ag],by simp [aa,r7,ag],by simp [aa,r8],by simp [aa,Y],by simp [aa],by simp [aa]⟩
   . obtain rfl:i=l.length:=by omega
     simp only [BS,LB,Nat.reduceLT,Nat.reduceEqDiff,Fg,O,Y,hl.lenq,aK,hlt]
     exact dX ⟨PP,by simp [aa,F],by simp [aa,O],by simp [aa,W,ag],by simp [aa,r7,ag],by simp [aa,r8]⟩
 rotate_left
 . exact⟨Xi _,PP,by simp [aa,F],by simp [aa,O],by simp [aa,W,ag],by simp [aa,r7,ag],by simp [aa],by simp [aa]⟩
 intro d h ⟨PP,F,O,W,r7,r8⟩
 have a4:an .i64 1=1:=rfl
 have a5:an .i64 2=2:=rfl
 simp only [BS,LB,Nat.reduceLT,Nat.reduceEqDiff,Int.reduceAdd,r8,a5]
 rw [bG]
 obtain⟨f,s,D,E,G,H,⟨S,e0,e1,B,C,q0,q1⟩,ea,eb⟩:=PP
 have f0:=gfl S m0
 have f1:=gfl S m1
 have bd:au h 1 encV f D:=(S.gown _ m0).1.sl (py D).symm oF (by decide)
 have be:au h 1 encV s E:=(S.gown _ m1).1.sl (py E).symm oF (by decide)
 have bT: ∀c,aq f c->h0.n<=c:=fun c X=>((S.gblk m0 X).1).elim (fun h=>h) (fun h=>h.elim)
 have bF: ∀c,aq s c->h0.n<=c:=fun c X=>((S.gblk m1 X).1).elim (fun h=>h) (fun h=>h.elim)
 have LT:ee h h0.n f l.length (fun j=>G.getD j []):=⟨D,bd,by omega,bT,fun j w hw=>⟨(B j w hw).1,fun x hx=>((B j w hw).2 x hx).1⟩⟩
 have LF:ee h h0.n s l.length (fun j=>H.getD j []):=⟨E,be,by omega,bF,fun j w hw=>⟨(C j w hw).1,fun x hx=>((C j w hw).2 x hx).1⟩⟩
 have k0: ∀i,i<l.length->jv N (G.getD i []):=fun i hi=>by
  rw [Xc,Xo (show i<G.length by omega)]
  exact q0 _ (Xq _)
 have k1: ∀i,i<l.length->jv N (H.getD i []):=fun i hi=>by
  rw [Xc,Xo (show i<H.length by omega)]
  exact q1 _ (Xq _)
 simp only [BS,LB,Nat.reduceLT,Nat.reduceEqDiff,Int.reduceToNat,Int.reduceLE,Int.reduceLT,zN,Fg,F,O,r7,r8,S.ld (b:=z) (o:=0) m0 rfl,S.ld (b:=z) (o:=1) m0 rfl]
 refine step_ret (make_ok S.ok (hl.gr S.gr) LT LF n1 (by omega) ml k0 k1) ?_
 rintro r h ⟨g,T⟩
 replace S:=S.call g
 simp only [BS,LB,ac,Nat.reduceLT,Nat.reduceEqDiff]
 exact⟨S.gr,_,_,_,T,fun i hi=>(k0 i hi).1,fun i hi=>(k1 i hi).1⟩
def Tryz.Fu:=aj t1<|aj t2<|aj t3<|aj t4<|aj Z0<|aj t32<|aj Z8<|aj t189<|aj Z1<|t218
theorem note_ins{ρ:Operand->Value}{b:Bool}{t:TypeId}{m k v:Operand}{h h':Hp}:bU ρ b (.insert t m k v) h h'=(match ρ m with| .map (some r)=>some (.blk r)|_=>none):=by
 simp only [bU,di,ij,dR,touch,cond_false]
 cases ρ m<;>(try rfl)
 next r=>cases r<;>rfl
theorem note_mk{ρ:Operand->Value}{b:Bool}{t:TypeId}{h h':Hp}:bU ρ b (.makeMap t none) h h'=none:=rfl
def OkEv(N M:Nat)(e:Ev2):Prop:=(e.kind=0/\e.id<N)\/(e.kind=1/\e.id<M/\e.lab=0)
theorem trm1_ok{h0:Hp}(r:h0.t.Sized h0.n){s F k:Nat}{γ:Gra}(c:bI h0 F (ptrTo s) γ)(l:h0.load k 0 1=some [ptrTo s]){e:Ev2}(u:OkEv γ.nodes γ.arcs.length e):bz zM 156 [.agg ⟨dB e⟩,ptrTo k] h0 (.bool true):=by
 have S:=Si r
 obtain⟨v,w,id,G⟩:=e
 have H:=bD r l
 unfold dB
 simp only []
 refine ab (n:=43) (rs:=[.tmp 3]) rfl Tryz.e156 rfl rfl rfl (lbt rfl) ?_
 simp only [BS,Nat.reduceLT]
 refine ae (aS (by intro x e;cases e)) S ?_;clear S;intro h a S y;simp only [ah]at S
 simp only [BS]
 have J:=Xa H S.gr.n
 refine fork_step (oU (ord:=[1,2,4,5,8,9,0,3,6,7,10,11]) rfl rfl (by simp only [dY,reix,eX,List.getElem?_cons_zero,List.getElem?_cons_succ,List.map_toArray,Xr,XG,Nat.reduceBEq,cond_true,cond_false];exact rfl)) (t:=5) (q:=74) (ps:=[(5,8),(5,7),(2,7),(3,5),(1,5),(1,2),(5,8),(5,7),(3,5),(1,5),(1,2)]) (by kernel_rfl) (by kernel_rfl) ?_
 simp only [BS,LB,cls,Nat.reduceLT,Nat.reduceEqDiff,Nat.reducePow,Nat.reduceDiv,Nat.reduceMod,Nat.reduceLeDiff,Fu,S.gr.load l]
 refine pU (dt (h0:={h with lo:=h.n}) S.ok ((c.gr S.gr).keep S.ok (fun _ _=>rfl))) ?_;intro h g;replace S:=S.call g;clear g
 simp only [BS,LB,cls,Nat.reduceLT,Nat.reduceEqDiff,Nat.reduceAdd,Nat.reducePow,Nat.reduceDiv,Nat.reduceMod,Nat.reduceLeDiff,Fu,S.gr.load l]
 refine pU (ui (h0:={h with lo:=h.n}) S.ok ((c.gr S.gr).keep S.ok (fun _ _=>rfl))) ?_;intro h g;replace S:=S.call g;clear g
 simp only [BS,LB,cls,Nat.reduceLT,Nat.reduceEqDiff,Nat.reduceAdd,Nat.reducePow,Nat.reduceDiv,Nat.reduceMod,Nat.reduceLeDiff,Fu,S.ld (b:=a) (o:=0) m0 rfl]
 have K:=(S.row (b:=a) m0).lt S.ok
 have L:k<h.n:=bD S.ok (S.gr.load l)
 refine dC kR S ?_;clear S;intro h f S z A
 simp only [BS,LB,cls,Nat.reduceEqDiff,Nat.reduceAdd,Nat.reducePow,Nat.reduceDiv,Nat.reduceMod,Nat.reduceLeDiff]
 refine dS (S.mput (i:=0) rfl Tryz.t218.1 (by simp only [aP,Tryz.t3.1];rfl) rfl) ?_
 clear S;rintro h S
 simp only [BS,LB,cls,Nat.reduceEqDiff,Nat.reduceAdd,Nat.reducePow,Nat.reduceDiv,Nat.reduceMod,Nat.reduceLeDiff]
 simp only [LC,Xn]at S
 refine dS (S.mput (i:=0) rfl Tryz.t218.1 (by simp only [aP,Tryz.t3.1];rfl) rfl) ?_
 clear S;rintro h S
 simp only [LC,Nat.reduceAdd]at S
 have B:h.get f=some (.map _ 2):=(S.own _ Xh).2
 have I:ce zM h 218 (.map (some f)) (.int .i64 (v:Nat)) false=some (.int .i64 (if v=0 then γ.nodes else γ.arcs.length)):=by
  simp only [ce,Tryz.t218.1,pM Tryz.t3.1,cond_true,B]
  rcases u with⟨d,_⟩|⟨d,_⟩
  . simp only []at d;subst d;rfl
  . simp only []at d;subst d;rfl
 have C:k≠f:=by omega
 have D:a≠f:=by omega
 simp only [BS,LB,cls,Nat.reduceLT,Nat.reduceEqDiff,Nat.reduceAdd,Nat.reducePow,Nat.reduceDiv,Nat.reduceMod,Nat.reduceLeDiff,I]
 refine⟨by simp only [bn,bE,aT,bJ,aV,ne_eq,not_false_eq_true,bK,bZ,bg,aX,cb,cM,aO,Nat.reduceLT,Nat.reduceEqDiff,reduceIte,Xg,ag,cD,vG,note_ins,note_mk,kZ,ib C,ib C.symm,ib D,ib D.symm];rfl,?_⟩
 refine run_kill (b:=f) (by simp only [cb,aO,Nat.reduceLT,Nat.reduceEqDiff,reduceIte]) B ?_
 replace S:=S.dead
 have m:(0:Int)<=(id:Int):=by omega
 rcases u with⟨d,p⟩|⟨d,p,E⟩
 . simp only []at d p
   subst d
   have j:(id:Int)<(γ.nodes:Int):=by omega
   cases w
   . simp only [BS,LB,ac,Nat.reduceLT,Nat.reduceEqDiff,zN,Xk,Fu,m,j,dw,S.ld (b:=a) (o:=0) m0 rfl,S.ld (b:=a) (o:=1) m0 rfl,S.ld (b:=a) (o:=2) m0 rfl,S.ld (b:=a) (o:=3) m0 rfl]
     exact S.gr
   . simp only [BS,LB,ac,Nat.reduceLT,Nat.reduceEqDiff,zN,Fu,m,j,dw,(by decide: ¬(1:Int)=0),S.ld (b:=a) (o:=0) m0 rfl,S.ld (b:=a) (o:=1) m0 rfl,S.ld (b:=a) (o:=2) m0 rfl,S.ld (b:=a) (o:=3) m0 rfl]
     exact S.gr
 . simp only []at d p E
   subst d E
   have j:(id:Int)<(γ.arcs.length:Int):=by omega
   cases w
   . simp only [BS,LB,ac,Nat.reduceLT,Nat.reduceEqDiff,zN,Xk,Fu,m,j,dw,(by decide: ¬(1:Int)=0),S.ld (b:=a) (o:=0) m0 rfl,S.ld (b:=a) (o:=1) m0 rfl,S.ld (b:=a) (o:=2) m0 rfl,S.ld (b:=a) (o:=3) m0 rfl]
     exact S.gr
   . simp only [BS,LB,ac,Nat.reduceLT,Nat.reduceEqDiff,zN,Fu,m,j,dw,(by decide: ¬(1:Int)=0),S.ld (b:=a) (o:=0) m0 rfl,S.ld (b:=a) (o:=1) m0 rfl,S.ld (b:=a) (o:=2) m0 rfl,S.ld (b:=a) (o:=3) m0 rfl]
     exact S.gr
def Tryz.FH:=aj t1<|aj t2<|aj t3<|aj t4<|aj Z8<|aj t149<|aj t151<|t153
def Tryz.F0v:=aj t1<|aj t2<|aj t3<|aj t4<|aj t5<|aj t6<|aj Z3<|aj t48<|aj Z8<|t149
def Tryz.FI:=aj t1<|aj t2<|aj t3<|aj t4<|aj t5<|aj Z0<|aj t32<|aj t48<|aj Z8<|aj t149<|aj t151<|aj t153<|aj t189<|Z1
def ki(e:Ev2):Value:=.agg ⟨[.int .i64 (e.kind:Nat),.int .i64 (dw e.side:Nat),.int .i64 (e.id:Nat)]⟩
def mM(a b:Ev2):Prop:=a.kind=b.kind/\a.side=b.side/\a.id=b.id
instance (a b:Ev2):Decidable (mM a b):=by unfold mM;infer_instance
theorem nat_ibeq(a b:Nat):gX (a:Int) (b:Int)=decide (a=b):=by
 show Nat.beq a b=_
 rw [bN]
theorem keyEq_e(a b:Ev2):bH (ki a) (ki b)=some (decide (mM a b)):=by
 unfold ki bH
 simp only [cS,fb,cond_true,nat_ibeq]
 have c:decide (dw a.side=dw b.side)=decide (a.side=b.side):=by cases a.side<;>cases b.side<;>rfl
 rw [c]
 unfold mM
 by_cases d:a.kind=b.kind<;>by_cases e:a.side=b.side<;>by_cases f:a.id=b.id<;>simp [d,e,f]
def jw:Nat->List Ev2->List (Value×Value×Nat)
 |_,[]=>[]
 |n,e::l=>(ki e,.int .i64 1,n)::jw (n+1) l
theorem qu{e:Ev2}: ∀{l:List Ev2} {n:Nat},(∀x∈l,¬mM e x)->aN (ki e) (jw n l)=some none
 | [],_,_=>rfl
 | x::l,n,h=>by
   unfold jw aN
   rw [keyEq_e,decide_eq_false (h x Xh)]
   exact qu fun y a=>h y (Xb _ a)
theorem v9{e:Ev2}: ∀{l:List Ev2} {n:Nat},jw n (l++[e])=jw n l++[(ki e,.int .i64 1,n+l.length)]
 | [],_=>rfl
 | x::l,n=>by
   show _::jw (n+1) (l++[e])=_::(jw (n+1) l++_)
   rw [v9,Xv,show n+1+l.length=n+(l.length+1) by omega]
theorem xZ: ∀{l:List Ev2} {n:Nat},∀p∈jw n l,p.2.2<n+l.length
 | x::l,n,p,h=>by
   rcases List.mem_cons.1 h with rfl|h
   . show n<_;rw [Xv];omega
   . have:=xZ p h;rw [Xv];omega
theorem um{k z w:Value}{c:Nat}: ∀{a:List (Value×Value×Nat)},(∀p∈a,p.2.2<c)->fK c w (a++[(k,z,c)])=some (a++[(k,w,c)])
 | [],_=>by simp [fK,Nat.beq_refl]
 | (k',v',b)::a,h=>by
   have d:=h _ Xh
   have e:Nat.beq b c=false:=by rw [bN];exact decide_eq_false (by simp only []at d;omega)
   simp only [List.cons_append,fK,e,cond_false,um fun p f=>h p (Xb _ f)]
theorem St.mentN{M:Nat->Prop}{h0 h:Hp}{L:List (Nat×Ob)}{G:List GL}(S:St M h0 h L G){E:Env}{t kt el:TypeId}{i b c:Nat}{a:List (Value×Value×Nat)}{k z:Value}(d:L[i]? =some (b,.map a c))(f:E.und t=some (.map kt el))(hf:aP E kt k=true)(g:E.zeroV el=some z)(j:aN k a=some none):
 ∃h',ic E h t (.map (some b)) k=some (h',.tuple #[z,.int .i64 (Int.ofNat c)])/\St M h0 h' (L.set i (b,.map (a++[(k,z,c)]) (c+1))) G/\Mo (· =b) h h':=by
 have e:h.get b=some (.map a c):=(S.own _ (List.mem_of_getElem? d)).2
 refine⟨h.put b (.map (a++[(k,z,c)]) (c+1)),?_,S.put d ?_,(Mo.refl (M:=(· =b)) S.ok).put (.inr rfl) _⟩
 . simp only [ic,iv,f,hf,cond_true,e,j,g]
 . exact lB e
theorem build_key{a b c:Int}:iK zM 153 [(0,.int .i64 a),(1,.int .i64 b),(2,.int .i64 c)]=some (.agg ⟨[.int .i64 a,.int .i64 b,.int .i64 c]⟩):=rfl
theorem once1_ok{h0:Hp}(N:h0.t.Sized h0.n){O nb F b5 b6 a n:Nat}{γ:Gra}{l:List Ev2}{e:Ev2}(cN: ∀h',Mo (· =a) h0 h'->bI h' nb (ptrTo O) γ)(Q:h0.load F 0 1=some [ptrTo O])(R:h0.load b5 0 1=some [.func (.func 156) #[] #[ptrTo F]])(G:h0.load b6 0 1=some [.map (some a)])
 (T:F≠a) (U:b5≠a) (V:b6≠a) (hm:h0.get a=some (.map (jw 0 l) l.length)) (he:OkEv γ.nodes γ.arcs.length e) (W: ∀x∈l,¬mM e x):
 Ret zM 78 [.agg ⟨dB e⟩,ptrTo b6,ptrTo b5] h0 fun r h'=>r=.bool false/\Mo (· =a) h0 h'/\h'.get a=some (.map (jw 0 (l++[e])) (l++[e]).length):=by
 have S:=St.init1 N (o:=.map (jw 0 l) l.length) hm
 have zm:a<h0.n:=S.key_lt (by simp [keys])
 have z6:=bD N G
 have c:=qu (n:=0) W
 have H:aP zM 153 (ki e)=true:=rfl
 obtain⟨m,s,id,d⟩:=e
 unfold dB
 simp only []
 refine ab (n:=29) (rs:=[.tmp 4]) rfl Tryz.e78 rfl rfl rfl (lbt rfl) ?_
 simp only [BS,Nat.reduceLT]
 refine ae (aS (by intro x e;cases e)) S ?_;clear S;intro h C S X;simp only [ah]at S
 simp only [BS,LB,Nat.reduceLT,Nat.reduceEqDiff,FH,build_key,S.ld (b:=C) (o:=0) m0 rfl,S.ld (b:=C) (o:=1) m0 rfl,S.ld (b:=C) (o:=2) m0 rfl]
 refine ae aA S ?_;clear S;intro h D S Y
 simp only [BS,LB,Nat.reduceLT,Nat.reduceEqDiff]
 refine az (S.store (i:=0) rfl Tryz.t153.2.2.1 (by intro x e;cases e) rfl rfl (lbt rfl) ono) ?_
 clear S;rintro h ⟨S,mo⟩;clear mo
 simp only [LC,ah,lay,Xd,Xe,Nat.reduceAdd]at S
 have g1:=S.fr
 have j:=S.old G V
 have t:=S.old R U
 have ad:=S.old Q T
 have u:=S.lds (b:=D) (o:=0) (n:=3) m0 (lbt rfl)
 have f:h.get a=some (.map (jw 0 l) l.length):=(S.own _ m2).2
 have k:ce zM h 151 (.map (some a)) (ki ⟨m,s,id,d⟩) false=some (.int .i64 0):=by
  simp only [ce,Tryz.t151.1,H,cond_true,f,c]
  rfl
 unfold ki at k c H
 simp only [Xe,Xd]at u k
 simp only [BS]
 refine aB (aG rfl) (q:=0) (ps:=[]) (by kernel_rfl) ?_
 simp only [BS,LB,cls,Nat.reduceLT,Nat.reduceEqDiff,Nat.reduceAdd,Nat.reducePow,Nat.reduceDiv,Nat.reduceMod,Nat.reduceLeDiff,Int.reduceAdd,FH,j,u,k]
 obtain⟨Z,e1,S1,_⟩:=S.mentN (i:=2) (z:=.int .i64 0) rfl Tryz.t151.1 H (by kernel_rfl) c
 refine jF (P:=fun h' v'=>h'=Z/\v'=.tuple #[.int .i64 0,.int .i64 (Int.ofNat l.length)]) ⟨Z,_,e1,rfl,rfl⟩ ?_
 rintro h' v' ⟨rfl,rfl⟩
 clear S;have S:=S1;clear S1
 simp only [LC]at S
 simp only [BS,LB,cls,Nat.reduceLT,Nat.reduceEqDiff,Nat.reduceAdd,Nat.reducePow,Nat.reduceDiv,Nat.reduceMod,Nat.reduceLeDiff,Int.ofNat_eq_natCast]
 have w1:an .i64 1=1:=rfl
 refine dS (S.mstoreI (i:=2) (w:=.int .i64 1) rfl (um fun p hp=>by have:=xZ p hp;omega)) ?_
 clear S;rintro I ⟨J,S⟩;clear J
 simp only [LC]at S
 simp only [BS,LB,Nat.reduceLT,Nat.reduceEqDiff,Nat.reduceAdd,FH]
 have q6:b6≠D:=by omega
 have qt:D≠a:=by omega
 have f:I.get a=some (.map (jw 0 l++[(ki ⟨m,s,id,d⟩,.int .i64 1,l.length)]) (l.length+1)):=(S.own _ m2).2
 have v:ce zM I 151 (.map (some a)) (ki ⟨m,s,id,d⟩) false=some (.int .i64 1):=by
  have K:aP zM 153 (ki ⟨m,s,id,d⟩)=true:=rfl
  simp only [ce,Tryz.t151.1,K,cond_true,f]
  rw [oK (by rw [keyEq_e];exact congrArg some (decide_eq_true ⟨rfl,rfl,rfl⟩)) (qu W)]
  rfl
 unfold ki at v
 have j:=S.old G V
 have t:=S.old R U
 have y:=S.lds (b:=D) (o:=0) (n:=3) m0 (lbt rfl)
 have A:=S.lds (b:=C) (o:=0) (n:=4) m1 (lbt rfl)
 simp only [Xe,Xd]at y A
 simp only [BS,LB,Nat.reduceLT,Nat.reduceEqDiff,FH,t,A]
 refine am (trm1_ok S.ok (cN _ S.fr) (S.old Q T) he) ?_
 intro h4 E
 have B:=E.load j
 have L:=E.load y
 have g:h4.get a=I.get a:=E.get a (Xa zm S.fr.n)
 have M:ce zM h4 151 (.map (some a)) (.agg ⟨[.int .i64 (m:Nat),.int .i64 (dw s:Nat),.int .i64 (id:Nat)]⟩) false=some (.int .i64 1):=by
  rw [<-v]
  simp only [ce,g]
 replace S:=S.call E
 simp only [BS,LB,ac,Nat.reduceLT,Nat.reduceEqDiff,Int.reduceLT,FH,B,L,M]
 refine⟨S.fr,?_⟩
 rw [g,f,v9,Xn,Xj]
 rfl
theorem idxE_ok{h0:Hp}{v:Value}{xs:List Ev2}{g:FuncId}{post:Array Value}(p:Fl v)(q:xs.length<1000000)(I:Nat->Hp->Prop)(d: ∀i h,I i h->au h 4 dB v xs)
 (hf: ∀i h (f:i<xs.length),I i h->Ret zM g ([.agg ⟨dB xs[i]⟩]++post.toList) h fun r h'=>r=.bool false/\I (i+1) h') (a:I 0 h0):
 Ret zM 157 [v,.func (.func g) #[] post] h0 fun r h'=>r=.int .i64 (-1)/\I xs.length h':=by
 refine ab (n:=19) (rs:=[.tmp 4]) rfl Tryz.e157 rfl rfl rfl (lbt rfl) ?_
 simp only [BS,LB,Nat.reduceLT,Nat.reduceEqDiff,F0v,(d 0 h0 a).lenq]
 refine bL (fun(i:Nat) b h=>i<=xs.length/\I i h/\b 0=v/\b 1=.func (.func g) #[] post/\b 7=.int .i64 (xs.length:Nat)/\b 8=.int .i64 i) (fun i=>xs.length-i) ?_ 0 _ _ ?_
 . intro i j b h ⟨f,h1,r0,r1,r7,r8⟩
   have w:an .i64 ((i:Int)+1)=((i+1:Nat):Int):=by rw [wrap64]<;>omega
   by_cases hlt:i<xs.length
   . obtain⟨c,o,k,l⟩:=(d i h h1).ix (kd:=.i64) (fun _=>rfl) hlt
     simp only [BS,LB,Nat.reduceLT,Nat.reduceEqDiff,F0v,r0,r1,r7,r8,aK,hlt,k,l]
     refine step_ret (hf i h hlt h1) ?_
     rintro r s ⟨rfl,m⟩
     simp only [BS,LB,Nat.reduceLT,Nat.reduceEqDiff,r8,w]
     exact j (i+1) _ _ (by omega) ⟨by omega,m,by simp [aa,r0],by simp [aa,r1],by simp [aa,r7],by simp [aa]⟩
   . have e:i=xs.length:=by omega
     subst e
     simp only [BS,LB,ac,Nat.reduceLT,Nat.reduceEqDiff,r7,r8,aK,hlt]
     exact h1
 . exact⟨Xi _,a,by simp [aa,cD],by simp [aa,cD],by simp [aa],by simp [aa]⟩
theorem q7{h0:Hp}{v:Value}{xs:List Ev2}{g:FuncId}{post:Array Value}(b:Fl v)(c:xs.length<1000000)(I:Nat->Hp->Prop)(d: ∀i h,I i h->au h 4 dB v xs)
 (hf: ∀i h (f:i<xs.length),I i h->Ret zM g ([.agg ⟨dB xs[i]⟩]++post.toList) h fun r h'=>r=.bool false/\I (i+1) h') (a:I 0 h0):
 Ret zM 77 [v,.func (.func g) #[] post] h0 fun r h'=>r=.bool false/\I xs.length h':=by
 refine ab (n:=9) (rs:=[.tmp 4]) rfl Tryz.e77 rfl rfl rfl (lbt rfl) ?_
 simp only [BS,LB,Nat.reduceLT,Nat.reduceEqDiff]
 refine step_ret (idxE_ok b c I d hf a) ?_
 rintro r h ⟨rfl,e⟩
 simp only [BS,LB,ac,Nat.reduceLT,Nat.reduceEqDiff,Int.reduceLE]
 exact e
theorem yv{h0:Hp}(d:h0.t.Sized h0.n){p:Value}(e:Fl p):Ret zM 76 [p] h0 fun r h'=>Gr h0 h'/\ ∃a,r=.func (.func 156) #[] #[ptrTo a]/\h'.load a 0 1=some [p]:=by
 have S:=Si d
 refine ab (n:=4) (rs:=[.tmp 2]) rfl Tryz.e76 rfl rfl rfl (lbt rfl) ?_
 simp only [BS,Nat.reduceLT]
 refine ae (cK (by assumption)) S ?_;clear S;intro h a S c
 simp only [BS,LB,ac,Nat.reduceLT,Nat.reduceEqDiff]
 exact⟨S.gr,_,rfl,S.ld (b:=a) (o:=0) m0 rfl⟩
theorem yX{h0:Hp}(B:h0.t.Sized h0.n){p C:Nat}{γ:Gra}(c:bI h0 C (ptrTo p) γ){v:Value}{xs:List Ev2}(q:au h0 4 dB v xs)(D:xs.length<1000000)(E: ∀x∈xs,OkEv γ.nodes γ.arcs.length x)(F:xs.Pairwise fun a b=> ¬mM b a):
 bz zM 23 [ptrTo p,v] h0 (.bool true):=by
 have S:=Si B
 have G:=q.fl
 refine ab (n:=16) (rs:=[.tmp 4]) rfl Tryz.e23 rfl rfl rfl (lbt rfl) ?_
 simp only [BS,LB,Nat.reduceLT,Nat.reduceEqDiff,FI]
 refine step_ret (yv S.ok dz) ?_
 rintro r h ⟨g,H,rfl,s⟩
 have d:=g.ok
 clear S
 rename Hp=>hM
 have S:=Si d
 have M:=bD d s
 simp only [BS,FI]
 refine ae aA S ?_;clear S;intro h t S u
 simp only [BS,LB,Nat.reduceLT,Nat.reduceEqDiff]
 refine az (aC S (i:=0) rfl ?_ ?_ ?_ ono) ?_
 . exact(by simp only [FI])
 . exact(by exact fO)
 . exact Xf (lbt rfl)
 clear S;rintro h ⟨S,k⟩;clear k;simp only [LC,ah,lay,Xd,Xe,Nat.reduceAdd]at S
 simp only [BS]
 refine ae kR S ?_;clear S;intro h w S f
 simp only [BS,FI]
 refine ae aA S ?_;clear S;intro h y S z
 simp only [BS,LB,Nat.reduceLT,Nat.reduceEqDiff]
 refine az (aC S (i:=0) rfl ?_ ?_ ?_ ono) ?_
 . exact(by simp only [FI])
 . exact(by exact fl_map)
 . exact Xf (lbt rfl)
 clear S;rintro h ⟨S,k⟩;clear k;simp only [LC,ah,lay,Xd,Xe,Nat.reduceAdd]at S
 simp only [BS,LB,Nat.reduceLT,Nat.reduceEqDiff]
 have I:=S.apart
 simp only [keys,Xr,XG,List.filterMap_nil,List.append_nil,List.nodup_cons,List.mem_cons,List.not_mem_nil,or_false,not_or]at I
 refine step_ret (q7 G D (fun i h=>St NoM hM h [(y,.row [.map (some w)] 1),(w,.map (jw 0 (xs.take i)) (xs.take i).length),(t,.row [.func (.func 156) #[] #[ptrTo H]] 1)] []) (fun i h S=>q.gr (g.trans S.gr)) ?_ S) ?_
 . intro i h l S
   refine(once1_ok S.ok (fun A m=>c.gr (g.trans ((S.fr.trans m (fun x e=>.inr (by subst e;exact f)):Mo NoM hM A).gr))) (S.gr.load s) (S.ld (b:=t) (o:=0) m2 rfl) (S.ld (b:=y) (o:=0) m0 rfl) (by omega) (by omega) (by omega) (S.own _ m1).2 (E _ (Xq l)) ?_ (n:=0)).mono ?_
   . intro x J
     obtain⟨j,K,rfl⟩:=List.getElem_of_mem J
     rw [Xp]at K
     rw [List.getElem_take]
     exact List.pairwise_iff_getElem.1 F j i (by omega) l (by omega)
   . rintro r A ⟨rfl,m,L⟩
     refine⟨rfl,?_⟩
     rw [Xw l]
     exact S.call1 (i:=1) (o':=.map _ _) rfl m L
 . rintro r h ⟨rfl,S⟩
   simp only [BS,LB,ac,Nat.reduceLT,Nat.reduceEqDiff]
   exact g.trans S.gr
def Tryz.F05:=aj t1<|aj t2<|aj t3<|aj t4<|aj Z0<|aj t32<|aj Z2<|aj t189<|Z1
def Tryz.Fv:=aj t1<|aj t2<|aj t3<|aj t4<|aj t5<|aj t6<|aj Z0<|aj t32<|aj Z8<|aj t149<|aj t155<|aj t189<|Z1
def Tryz.FT:=aj t1<|aj t2<|aj t3<|aj t4<|aj t5<|aj Z0<|aj t32<|aj t48<|aj Z8<|aj t149<|aj t155<|aj t189<|Z1
theorem wF{h0:Hp}(k:h0.t.Sized h0.n){d l:Nat}{γ:Gra}(c:bI h0 l (ptrTo d) γ){i:Nat}(f:i<γ.arcs.length){s:Bool}:Ret zM 80 [ptrTo d,.int .i64 (i:Nat),.int .i64 (dw s:Nat)] h0 fun r h'=>Gr h0 h'/\r=.int .i64 (fsB s (γ.arcs.getD i default):Nat):=by
 have S:=Si k
 have m:γ.arcs.getD i default=γ.arcs[i]:=by rw [Xc,Xo f];rfl
 rw [m]
 refine ab (n:=21) (rs:=[.tmp 6]) rfl Tryz.e80 rfl rfl rfl (lbt rfl) ?_
 simp only [BS,LB,Nat.reduceLT,Nat.reduceEqDiff]
 refine step_ret (mZ S.ok (c.gr S.gr) f) ?_
 rintro r h ⟨g,rfl⟩
 replace S:=S.call g
 unfold ct
 simp only [BS,LB,Nat.reduceLT,Nat.reduceEqDiff,F05]
 refine ae aA S ?_;clear S;intro h a S j
 simp only [BS,LB,Nat.reduceLT,Nat.reduceEqDiff]
 refine az (S.store (i:=0) rfl Tryz.t99.2.1 (by intro x e;cases e) rfl rfl (lbt rfl) ono) ?_
 clear S;rintro h ⟨S,p⟩;clear p
 simp only [LC,ah,lay,Xd,Xe,Nat.reduceAdd]at S
 cases s
 . simp only [BS,LB,ac,Nat.reduceLT,Nat.reduceEqDiff,zN,Xk,F05,dw,fsB,(by decide: ¬(0:Int)=1),S.ld (b:=a) (o:=0) m0 rfl,S.ld (b:=a) (o:=1) m0 rfl]
   exact S.gr
 . simp only [BS,LB,ac,Nat.reduceLT,Nat.reduceEqDiff,zN,F05,dw,fsB,S.ld (b:=a) (o:=0) m0 rfl,S.ld (b:=a) (o:=1) m0 rfl]
   exact S.gr
def js(L:Bool->Int)(e:Ev2):Bool->Int:=if e.kind=0 then fun s=>if s=e.side then(e.id:Int)else L s else L
theorem heads1_ok{h0:Hp}(z:h0.t.Sized h0.n){A P D b5 b6 E:Nat}{γ:Gra}{L:Bool->Int}{e:Ev2}(c:bI h0 P (ptrTo A) γ)(Q:h0.load D 0 1=some [ptrTo A])(R:h0.load b5 0 1=some [.func (.func 156) #[] #[ptrTo D]])(B:h0.load E 0 1=some [ptrTo A])
 (p:Row h0 b6 [.int .i64 (L false),.int .i64 (L true)] 1) (F:OkEv γ.nodes γ.arcs.length e) (G:e.kind=1->L e.side=(fsB e.side (γ.arcs.getD e.id default):Nat)):
 Ret zM 79 [.agg ⟨dB e⟩,ptrTo b5,ptrTo b6,ptrTo E] h0 fun r h'=>r=.bool false/\Mo (· =b6) h0 h'/\Row h' b6 [.int .i64 (js L e false),.int .i64 (js L e true)] 1:=by
 have S:=Si z
 have V:b6<h0.n:=p.lt z
 have T:=bD z B
 obtain⟨W,H,id,U⟩:=e
 have f:=fun(h:Hp) (g:Gr h0 h)=>trm1_ok g.ok (c.gr g) (g.load Q) F
 unfold dB at f⊢
 simp only []at G f⊢
 refine ab (n:=31) (rs:=[.tmp 5]) rfl Tryz.e79 rfl rfl rfl (lbt rfl) ?_
 simp only [BS,Nat.reduceLT]
 refine ae (aS (by intro x e;cases e)) S ?_;clear S;intro h a S I;simp only [ah]at S
 have k:=S.lds (b:=a) (o:=0) (n:=4) m0 (lbt rfl)
 simp only [Xe,Xd]at k
 simp only [BS,LB,Nat.reduceLT,Nat.reduceEqDiff,Fv,S.gr.load R,k]
 refine am (f _ S.gr) ?_
 intro h g
 replace S:=S.call g;clear g k
 rcases F with⟨t,y⟩|⟨t,y,m⟩
 . simp only []at t
   subst t
   have j:=p.gr S.gr
   have d:=St.init1 S.ok (o:=.row _ 1) j
   have X: ¬a=b6:=by omega
   cases H
   . simp only [BS,LB,Nat.reduceLT,Nat.reduceEqDiff,Int.reduceToNat,Int.reduceLE,Int.reduceLT,zN,Xk,Fv,dw,S.ld (b:=a) (o:=0) m0 rfl,S.ld (b:=a) (o:=1) m0 rfl,S.ld (b:=a) (o:=2) m0 rfl]
     refine az (aC d (i:=0) rfl Tryz.t3.2.2.1 aY (Xf (lbt rfl)) ono) ?_
     clear d;rintro m ⟨d,C⟩;clear C
     simp only [List.set_cons_zero,List.set_cons_succ]at d
     simp only [BS,LB,ac,Nat.reduceLT,Nat.reduceEqDiff]
     refine⟨S.gr.fr.trans d.fr (fun _ h=>.inl h),?_⟩
     simp [js]
     exact d.row m0
   . simp only [BS,LB,Nat.reduceLT,Nat.reduceEqDiff,Int.reduceToNat,Int.reduceLE,Int.reduceLT,zN,Fv,dw,S.ld (b:=a) (o:=0) m0 rfl,S.ld (b:=a) (o:=1) m0 rfl,S.ld (b:=a) (o:=2) m0 rfl]
     refine az (aC d (i:=0) rfl Tryz.t3.2.2.1 aY (Xf (lbt rfl)) ono) ?_
     clear d;rintro m ⟨d,C⟩;clear C
     simp only [List.set_cons_zero,List.set_cons_succ]at d
     simp only [BS,LB,ac,Nat.reduceLT,Nat.reduceEqDiff]
     refine⟨S.gr.fr.trans d.fr (fun _ h=>.inl h),?_⟩
     simp [js]
     exact d.row m0
 . simp only []at t y m
   subst t m
   have J:=G rfl
   have j:=p.gr S.gr
   have K:=(S.row (b:=a) m0).lt S.ok
   have M:=j.lt S.ok
   have N:=Xa T S.gr.n
   have O: ¬(1:Int)=0:=by decide
   cases H
   . have l:=j.load1 (o:=0) rfl
     simp only [BS,LB,Nat.reduceLT,Nat.reduceEqDiff,zN,Xk,Fv,dw,O,S.ld (b:=a) (o:=0) m0 rfl]
     refine aB (aG rfl) (q:=0) (ps:=[(3,9),(1,9)]) (by kernel_rfl) ?_
     simp only [BS,LB,cls,Nat.reduceLT,Nat.reduceEqDiff,Nat.reduceAdd,Nat.reducePow,Nat.reduceDiv,Nat.reduceMod,Nat.reduceLeDiff,Int.reduceToNat,Int.reduceLE,Int.reduceLT,zN,Xk,Fv,dw,l,S.gr.load B,S.ld (b:=a) (o:=1) m0 rfl,S.ld (b:=a) (o:=2) m0 rfl]
     refine cV (wF S.ok (c.gr S.gr) y (s:=false)) ?_
     rintro r m ⟨g,rfl⟩
     have u:=ar g K
     have v:=ar g M
     have w:=ar g N
     replace S:=S.call g;clear g
     simp only [BS,LB,cls,ac,Nat.reduceLT,Nat.reduceEqDiff,Nat.reduceAdd,Nat.reducePow,Nat.reduceDiv,Nat.reduceMod,Nat.reduceLeDiff,J]
     refine⟨by simp only [bn,bE,aT,bJ,aV,ne_eq,not_false_eq_true,bK,bZ,bg,aX,cb,cM,aO,Nat.reduceLT,Nat.reduceEqDiff,reduceIte,Xg,ag,cD,aD u,av u,aD v,av v,aD w,av w],?_⟩
     exact⟨S.fr.mono (fun _ h=>h.elim),by simp [js];exact p.gr S.gr⟩
   . have l:=j.load1 (o:=1) rfl
     simp only [BS,LB,Nat.reduceLT,Nat.reduceEqDiff,zN,Fv,dw,O,S.ld (b:=a) (o:=0) m0 rfl]
     refine aB (aG rfl) (q:=0) (ps:=[(3,9),(1,9)]) (by kernel_rfl) ?_
     simp only [BS,LB,cls,Nat.reduceLT,Nat.reduceEqDiff,Nat.reduceAdd,Nat.reducePow,Nat.reduceDiv,Nat.reduceMod,Nat.reduceLeDiff,Int.reduceToNat,Int.reduceLE,Int.reduceLT,zN,Fv,dw,l,S.gr.load B,S.ld (b:=a) (o:=1) m0 rfl,S.ld (b:=a) (o:=2) m0 rfl]
     refine cV (wF S.ok (c.gr S.gr) y (s:=true)) ?_
     rintro r m ⟨g,rfl⟩
     have u:=ar g K
     have v:=ar g M
     have w:=ar g N
     replace S:=S.call g;clear g
     simp only [BS,LB,cls,ac,Nat.reduceLT,Nat.reduceEqDiff,Nat.reduceAdd,Nat.reducePow,Nat.reduceDiv,Nat.reduceMod,Nat.reduceLeDiff,J]
     refine⟨by simp only [bn,bE,aT,bJ,aV,ne_eq,not_false_eq_true,bK,bZ,bg,aX,cb,cM,aO,Nat.reduceLT,Nat.reduceEqDiff,reduceIte,Xg,ag,cD,aD u,av u,aD v,av v,aD w,av w],?_⟩
     exact⟨S.fr.mono (fun _ h=>h.elim),by simp [js];exact p.gr S.gr⟩
def pK(A:List Arc)(xs:List Ev2):Prop:= ∀i,(a:i<xs.length)->xs[i].kind=1->(xs.take i).foldl js (fun _=> -1) xs[i].side=((fsB xs[i].side (A.getD xs[i].id default):Nat):Int)
theorem two_of{a b:Value}:iK zM 155 [(0,.int .i64 (-1)),(1,.int .i64 (-1))]=some (.agg ⟨[.int .i64 (-1),.int .i64 (-1)]⟩):=rfl
theorem wW{h0:Hp}(y:h0.t.Sized h0.n){l z:Nat}{γ:Gra}(c:bI h0 z (ptrTo l) γ){v:Value}{xs:List Ev2}(p:au h0 4 dB v xs)(A:xs.length<1000000)(B: ∀x∈xs,OkEv γ.nodes γ.arcs.length x)(C:pK γ.arcs xs):
 bz zM 26 [ptrTo l,v] h0 (.bool true):=by
 have S:=Si y
 have D:=p.fl
 refine ab (n:=16) (rs:=[.tmp 4]) rfl Tryz.e26 rfl rfl rfl (lbt rfl) ?_
 simp only [BS,Nat.reduceLT]
 refine ae (cK (by exact dz)) S ?_;clear S;intro h a S q
 simp only [BS,LB,Nat.reduceLT,Nat.reduceEqDiff,FT,S.ld (b:=a) (o:=0) m0 rfl]
 refine step_ret (yv S.ok dz) ?_
 rintro r h ⟨g,E,rfl,F⟩
 have I:=(S.row (b:=a) m0).lt S.ok
 have G:=g.load (S.ld (b:=a) (o:=0) m0 rfl)
 have d:=(S.call g).gr
 have f:=g.ok
 clear S
 rename Hp=>hM
 have S:=Si f
 simp only [BS,FT]
 refine ae aA S ?_;clear S;intro h s S t
 simp only [BS,LB,Nat.reduceLT,Nat.reduceEqDiff]
 refine az (aC S (i:=0) rfl ?_ ?_ ?_ ono) ?_
 . exact(by simp only [FT])
 . exact(by exact fO)
 . exact Xf (lbt rfl)
 clear S;rintro h ⟨S,j⟩;clear j;simp only [LC,ah,lay,Xd,Xe,Nat.reduceAdd]at S
 simp only [BS,LB,FT,two_of]
 refine ae aA S ?_;clear S;intro h u S w
 simp only [BS,LB,Nat.reduceLT,Nat.reduceEqDiff]
 refine az (S.store (i:=0) rfl Tryz.t155.2.2.1 (by intro x e;cases e) rfl rfl (lbt rfl) ono) ?_
 clear S;rintro h ⟨S,j⟩;clear j
 simp only [LC,ah,lay,Xd,Xe,Nat.reduceAdd]at S
 simp only [BS,LB,Nat.reduceLT,Nat.reduceEqDiff]
 refine step_ret (q7 D A (fun i h=>St NoM hM h [(u,.row [.int .i64 ((xs.take i).foldl js (fun _=> -1) false),.int .i64 ((xs.take i).foldl js (fun _=> -1) true)] 1),(s,.row [.func (.func 156) #[] #[ptrTo E]] 1)] []) (fun i h S=>p.gr (d.trans S.gr)) ?_ S) ?_
 . intro i h k S
   refine(heads1_ok S.ok (c.gr (d.trans S.gr)) (S.gr.load F) (S.ld (b:=s) (o:=0) m1 rfl) (S.gr.load G) (S.row (b:=u) m0) (B _ (Xq k)) (C i k)).mono ?_
   rintro r J ⟨rfl,m,H⟩
   refine⟨rfl,?_⟩
   rw [Xw k,XD]
   exact S.call1 (i:=0) (o':=.row _ 1) rfl m H
 . rintro r h ⟨rfl,S⟩
   simp only [BS,LB,ac,Nat.reduceLT,Nat.reduceEqDiff]
   exact d.trans S.gr
end Go.Ab
end
section
namespace Go.Ab
structure EvO(A:List Arc)(N:Nat)(O:Bool->List Nat)(ev:List Ev2):Prop where
 ok: ∀e∈ev,OkEv N A.length e
 nd:ev.Pairwise fun a b=> ¬mM b a
 mem: ∀e∈ev,(if e.kind=0 then e.id else fsB e.side (A.getD e.id default))∈O e.side
 hd:pK A ev
section
variable{A:List Arc}{N:Nat}{O O':Bool->List Nat}{ev:List Ev2}
theorem EvO.nil:EvO A N O []:=⟨by simp,.nil,by simp,fun i a=>by simp at a⟩
theorem heads_app{e:Ev2}(h:pK A ev)(c:e.kind=1->ev.foldl js (fun _=> -1) e.side=((fsB e.side (A.getD e.id default):Nat):Int)):pK A (ev++[e]):=by
 intro i d a
 rw [Xj,Xx]at d
 by_cases hlt:i<ev.length
 . have b:(ev++[e])[i]=ev[i]:=List.getElem_append_left hlt
   rw [b]at a⊢
   rw [XA (by omega)]
   exact h i hlt a
 . obtain rfl:i=ev.length:=by omega
   have b:(ev++[e])[ev.length]=e:=by simp
   rw [b]at a⊢
   rw [XA (Xm _),List.take_length]
   exact c a
theorem EvO.add{e:Ev2}(h:EvO A N O ev)(d:OkEv N A.length e)(f: ∀x∈ev,¬mM e x)(g: ∀i x,x∈O i->x∈O' i)(j:(if e.kind=0 then e.id else fsB e.side (A.getD e.id default))∈O' e.side)
 (k:e.kind=1->ev.foldl js (fun _=> -1) e.side=((fsB e.side (A.getD e.id default):Nat):Int)):EvO A N O' (ev++[e]):=by
 refine⟨fun x c=>?_,List.pairwise_append.2 ⟨h.nd,List.pairwise_singleton _ _,fun a l b m=>?_⟩,fun x c=>?_,heads_app h.hd k⟩
 . rcases List.mem_append.1 c with c|c
   . exact h.ok x c
   . rw [List.mem_singleton.1 c];exact d
 . rw [List.mem_singleton.1 m];exact f a l
 . rcases List.mem_append.1 c with c|c
   . exact g _ _ (h.mem x c)
   . rw [List.mem_singleton.1 c];exact j
theorem EvO.pop{i:Bool}{v lab:Nat}(h:EvO A N O ev)(d:v<N)(e:v∉O i)(f: ∀i x,x∈O i->x∈O' i)(g:v∈O' i):EvO A N O' (ev++[⟨0,i,v,lab⟩]):=by
 refine h.add (.inl ⟨rfl,d⟩) (fun x j k=>?_) f g (fun h=>by cases h)
 have:=h.mem x j
 obtain⟨a,b,c⟩:=k
 simp only []at a b c
 rw [<-a,<-b,<-c,if_pos rfl]at this
 exact e this
def jr(al:Nat->Bool)(i:Bool)(l:List Nat):List Ev2:=(l.filter al).map fun a=>⟨1,i,a,0⟩
theorem EvO.scan{al:Nat->Bool}{i:Bool}{v:Nat}(n:v∈O i): ∀(l:List Nat) {ev:List Ev2},EvO A N O ev->l.Nodup->(∀a∈l,a<A.length/\fsB i (A.getD a default)=v)->ev.foldl js (fun _=> -1) i=(v:Int)->
 (∀e∈ev,e.kind=1->e.side=i->e.id∉l)->EvO A N O (ev++jr al i l)
 | [],ev,h,_,_,_,_=>by unfold jr;simpa using h
 | a ::l,ev,h,t,o,p,q=>by
   have c:=List.nodup_cons.1 t
   have d:=o a Xh
   cases j:al a with
   | false=>
     have:jr al i (a::l)=jr al i l:=by unfold jr;rw [XH (by simp [j])]
     rw [this]
     exact EvO.scan n l h c.2 (fun b r=>o b (Xb _ r)) p (fun e f k m g=>q e f k m (Xb _ g))
   | true=>
     have:ev++jr al i (a::l)=(ev++[⟨1,i,a,0⟩])++jr al i l:=by unfold jr;rw [XI j,Xr,List.append_assoc];rfl
     rw [this]
     refine EvO.scan n l ?_ c.2 (fun b r=>o b (Xb _ r)) ?_ ?_
     . refine h.add (.inr ⟨rfl,d.1,rfl⟩) (fun x s u=>?_) (fun _ _ h=>h) ?_ (fun _=>?_)
       . obtain⟨k,m,g⟩:=u
         exact q x s k.symm m.symm (by rw [<-g];exact Xh)
       . show(if 1=0 then _ else _)∈_
         rw [if_neg (by decide),d.2];exact n
       . simp only [];rw [p,d.2]
     . rw [XD,Xz,List.foldl_nil]
       unfold js
       rw [if_neg (by simp)];exact p
     . intro e f k m g
       rcases List.mem_append.1 f with f|f
       . exact q e f k m (Xb _ g)
       . rw [List.mem_singleton.1 f]at g;exact c.1 g
theorem EvO.step{al:Nat->Bool}{i:Bool}{v lab:Nat}{l:List Nat}(h:EvO A N O ev)(j:v<N)(d:v∉O i)(k: ∀i x,x∈O i->x∈O' i)(f:v∈O' i)(m:l.Nodup)(g: ∀a∈l,a<A.length/\fsB i (A.getD a default)=v):
 EvO A N O' (ev++[⟨0,i,v,lab⟩]++jr al i l):=by
 refine EvO.scan f l (h.pop j d k f) m g ?_ ?_
 . rw [XD,Xz,List.foldl_nil]
   unfold js
   rw [if_pos rfl,if_pos rfl]
 . intro e b c n o
   rcases List.mem_append.1 b with b|b
   . have:=h.mem e b
     rw [c,if_neg (by decide),n,(g _ o).2]at this
     exact d this
   . rw [List.mem_singleton.1 b]at c;cases c
end
theorem Bl(A:List Arc)(f:Arc->Nat)(j v:Nat):(outs A f j v).Nodup:=by unfold outs;exact List.nodup_range.filter _

section
variable{A:List Arc}{N:Nat}{al:Nat->Bool}{pi:Nat->Int}{rt:Bool->Nat}{σ τ:Bi}
theorem xL{i:Bool}{v:Nat}: ∀(l:List Nat) {σ:Bi},(l.foldl (cF A al pi i v) σ).ev=σ.ev++jr al i l
 | [],σ=>by unfold jr;simp
 | a::l,σ=>by
   rw [Xz,xL l]
   unfold cF
   cases b:al a with
   |false=>rw [if_neg Bool.false_ne_true];unfold jr;rw [XH (by simp [b])]
   |true=>rw [if_pos rfl,oZ];unfold jr evB;rw [XI b,Xr,List.append_assoc];rfl
theorem ends_EvO(o:N<=12)(p: ∀a∈A,a.s<N/\a.t<N/\a.w<=bO)(q:iW A al pi σ τ):BiI A N rt al pi σ->EvO A N (fun i=>(σ.sd i).O) σ.ev->EvO A N (fun i=>(τ.sd i).O) τ.ev:=by
 induction q with
 |stop _=>exact fun _ h=>h
 | @step σ τ i v k w g _ r=>
   intro I h
   obtain⟨s,m⟩:=rM o p I g.1
   refine r s ?_
   obtain⟨b,l,t,_⟩:=(I.sv i).op v k g.1
   have c:=m.O
   have n:=m.ot
   rw [clo_b]at c
   rw [clo_n]at n
   have d:(eo A al pi i v (aW σ i v)).ev=σ.ev++[⟨0,i,v,jT σ i v⟩]++jr al i (outs A (fsB i) A.length v):=by unfold eo;rw [xL];rfl
   rw [d]
   refine h.step ((I.sv i).lab v l t).1 b (fun j x f=>?_) ?_ (Bl _ _ _ _) (fun a u=>jI.1 u)
   . by_cases e:j=i
     . subst e
       show x∈((eo A al pi j v (aW σ j v)).sd j).O
       rw [c];exact Xy _ f
     . rw [me e]
       show x∈((eo A al pi i v (aW σ i v)).sd (!i)).O
       rw [show(eo A al pi i v (aW σ i v)).sd (!i)=σ.sd (!i)from n]
       rw [me e]at f;exact f
   . show v∈((eo A al pi i v (aW σ i v)).sd i).O
     rw [c];simp
theorem twin_EvO{s t:Nat}(b:N<=12)(c: ∀a∈A,a.s<N/\a.t<N/\a.w<=bO)(d:s<N)(e:t<N)(f:iW A al pi (jq pi s t) τ):EvO A N (fun i=>(τ.sd i).O) τ.ev:=
 ends_EvO (rt:=rtB s t) b c f (sC b d e) (by rw [tg];exact EvO.nil)
end

end Go.Ab

end
section
namespace Go.Ab
open Go.Proofs
set_option maxRecDepth 10000

end Go.Ab
end
section
namespace Go.Ab
open Go.Proofs
structure EvK(γ:Gra)(xs:List Ev2):Prop where
 len:xs.length<1000000
 ok: ∀x∈xs,OkEv γ.nodes γ.arcs.length x
 nd:xs.Pairwise fun a b=> ¬mM b a
 hd:pK γ.arcs xs
theorem EvK.nil{γ:Gra}:EvK γ []:=⟨by simp,by simp,.nil,fun i a=>by simp at a⟩
end Go.Ab

end
section
namespace Go.Ab
open Go.Proofs
set_option maxRecDepth 10000
theorem ends_lenB {A:List Arc} {N:Nat} {al:Nat->Bool} {pi:Nat->Int} {rt:Bool->Nat} {σ τ:Bi} (f:N<=12) (g: ∀a∈A,a.s<N/\a.t<N/\a.w<=bO) (s:A.length<=100) (j:iW A al pi σ τ):BiI A N rt al pi σ->σ.ev.length<=200*((σ.sd false).O.length+(σ.sd true).O.length)->τ.ev.length<=4800:=by
 induction j with
 | @stop σ _=>
   intro I h
   have t:=(I.sv false).len
   have u:=(I.sv true).len
   omega
 | @step σ τ i v k w m _ n=>
   intro I h
   obtain⟨o,e⟩:=rM f g I m.1
   have p:(eo A al pi i v (aW σ i v)).ev.length<=σ.ev.length+200:=by
    have evS: ∀(l:List Nat) (σ:Bi),(l.foldl (cF A al pi i v) σ).ev.length<=σ.ev.length+l.length:=by
     intro l
     induction l with
     |nil=>intro σ;exact Xm _
     | cons a l b=>
       intro σ
       have q:=b (cF A al pi i v σ a)
       have r:(cF A al pi i v σ a).ev.length<=σ.ev.length+1:=by
        unfold cF
        split
        . rw [oZ];simp [evB]
        . omega
       rw [Xz,Xv]
       omega
    have q:=evS (outs A (fsB i) A.length v) (aW σ i v)
    have r:(aW σ i v).ev.length=σ.ev.length+1:=by simp [aW]
    have x:=kD A (fsB i) A.length v
    unfold eo
    omega
   have c:=e.O
   have d:=e.ot
   rw [clo_b]at c
   rw [clo_n]at d
   refine n o ?_
   cases i
   . rw [c,show((eo A al pi false v (aW σ false v)).sd true)=σ.sd true from d,Xj,Xx]
     omega
   . rw [c,show((eo A al pi true v (aW σ true v)).sd false)=σ.sd false from d,Xj,Xx]
     omega
def Tryz.FU:=aj t1<|aj t2<|aj t3<|aj t4<|aj t5<|aj t6<|aj Z3<|aj Z4<|t33
theorem rows20_ok{h0:Hp}(k:h0.t.Sized h0.n){u v:Value}{l:List Nat}(e:au h0 1 cB u l)(j:au h0 1 cB v l)(s:l.length<=1000):bz zM 28 [u,v] h0 (.bool true):=by
 have S:=Si k
 have t:=e.fl
 have x:=j.fl
 refine ab (n:=26) (rs:=[.tmp 4]) rfl Tryz.e28 rfl rfl rfl (lbt rfl) ?_
 simp only [BS,LB,Nat.reduceLT,Nat.reduceEqDiff,FU,e.lenq,j.lenq]
 refine bL (fun(i:Nat) g h=>i<=l.length/\Gr h0 h/\g 0=u/\g 1=v/\g 5=.int .i64 i) (fun i=>l.length-i) ?_ 0 _ _ ?_
 . clear S
   intro i m g h ⟨hi,S,r0,r1,r5⟩
   by_cases hlt:i<l.length
   . obtain⟨c,o,f,b⟩:=(e.gr S).ix (kd:=.i64) fj hlt
     obtain⟨p,r,d,a⟩:=(j.gr S).ix (kd:=.i64) fj hlt
     replace b:h.load c o 1=some [.int .i64 (l[i]:Nat)]:=b
     replace a:h.load p r 1=some [.int .i64 (l[i]:Nat)]:=a
     have w:an .i64 ((i:Int)+1)=((i+1:Nat):Int):=by rw [wrap64]<;>omega
     simp only [BS,LB,Nat.reduceLT,Nat.reduceEqDiff,FU,r0,r5,e.lenq,aK,hlt]
     refine aB (aG rfl) (q:=0) (ps:=[]) (by kernel_rfl) ?_
     simp only [BS,LB,cls,Nat.reduceLT,Nat.reduceEqDiff,Nat.reduceAdd,Nat.reducePow,Nat.reduceDiv,Nat.reduceMod,Nat.reduceLeDiff,FU,r0,r1,r5,f,b,d,a,w]
     exact m (i+1) _ _ (by omega) ⟨by omega,S,by simp [aa,r0],by simp [aa,r1],by simp [aa]⟩
   . simp only [BS,LB,ac,Nat.reduceLT,Nat.reduceEqDiff,FU,r0,r5,e.lenq,aK,hlt]
     exact S
 . exact⟨Xi _,Gr.refl k,by simp [aa,aZ],by simp [aa,aZ,cG],by simp [aa]⟩
theorem twin_evK{γ:Gra}(b:Good γ){s w:Nat}(d:s<γ.nodes)(e:w<γ.nodes){al:Nat->Bool}{pi:Nat->Int}{τ:Bi}(f:iW γ.arcs al pi (jq pi s w) τ):EvK γ τ.ev:=by
 have c:=b.n2
 have g: ∀a∈γ.arcs,a.s<γ.nodes/\a.t<γ.nodes/\a.w<=bO:=b.arcs
 have h:=twin_EvO c g d e f
 have i:=b.many
 have j:=ends_lenB c g (by omega) f (sC c d e) (by rw [tg];exact Xi _)
 exact⟨by omega,h.ok,h.nd,h.hd⟩
theorem twin_any{γ:Gra}(b:Good γ){s w:Nat}(d:s<γ.nodes)(e:w<γ.nodes){pi:Nat->Int}{τ:Bi}(f:iW γ.arcs (fun _=>true) pi (jq pi s w) τ)(g:τ.dist<FAR):jP γ.arcs s (nC τ) w τ.dist/\(nC τ).length<=1000:=by
 have c:=b.n2
 have h: ∀a∈γ.arcs,a.s<γ.nodes/\a.t<γ.nodes/\a.w<=bO:=b.arcs
 obtain⟨i,j⟩:=AJ (ends_I c h f (sC c d e)) g
 exact⟨i,by omega⟩
def Tryz.Fb:=aj t1<|aj t2<|aj t3<|aj t4<|aj t5<|aj t6<|aj Z3<|aj Z4<|aj t9<|aj t10<|aj t11<|aj t12<|aj Z12<|aj Z15<|aj t15<|aj t16<|aj t17<|aj Z20<|aj t22<|aj t23<|aj t24<|aj t26<|aj r26<|aj Z18<|aj t29<|aj Z0<|aj t32<|aj t33<|aj t45<|aj t47<|aj r47<|aj t48<|aj t51<|aj t59<|aj t69<|aj Z8<|aj Z2<|aj Z5<|aj t181<|aj t189<|aj Z1<|aj t271<|aj t358<|aj Z16<|aj t372<|aj t374<|aj t376<|aj t377<|aj t378<|aj t379<|Z13
theorem SlW.grO{h h':Hp}{kd:IntKind}{v:Value}{xs:List Int}(s:SlW h kd v xs)(g:Gr h h'):SlW h' kd v xs:=s.imp (fun h=>h) (fun⟨b,o,c,a,d,e⟩=>⟨b,o,c,a,d,g.load e⟩)
theorem twoT_of{a b:Option Addr}:iK zM 69 [(0,.pointer a),(1,.pointer b)]=some (.agg ⟨[.pointer a,.pointer b]⟩):=rfl
theorem twoT_at{a b:Value}{i:Nat}(c:i<2):iP zM 69 (.agg ⟨[a,b]⟩) (.int .i64 (i:Nat))=some (if i=0 then a else b):=by
 rcases(by omega:i=0\/i=1)with rfl|rfl<;>rfl
theorem uY{h0:Hp}(ok:h0.t.Sized h0.n){vB vM vN:Value}{f t:Nat}{xa:Int}{B ms NL:List Int}(hB:SlW h0 .u8 vB B)(hM:SlW h0 .u8 vM ms)(af: ∀x∈ms,0<=x/\x<=255)(hN:SlW h0 .i64 vN NL)(hf:f<=255)(ht:t<=255):
 bz zM 5 [.agg ⟨[vB,vM,.int .u8 (f:Nat),.int .u8 (t:Nat),.int .i8 xa,vN]⟩] h0 (.bool true):=by
 have S:=Si ok
 have fB:=hB.sl.fl
 have fM:=hM.sl.fl
 have fN:=hN.sl.fl
 have bd:=jK
 refine ab (n:=121) (rs:=[.tmp 2]) rfl Tryz.e5 rfl rfl rfl (lbt rfl) ?_
 simp only [BS,Nat.reduceLT]
 refine ae (aS (by intro x e;cases e)) S ?_;clear S;intro h b1 S a7;simp only [ah]at S
 simp only [BS,LB]
 refine am (AX S.ok) ?_
 intro h g;replace S:=S.call g;clear g
 simp only [BS,LB,Nat.reduceLT,Nat.reduceEqDiff,Fb,List.drop_zero,List.take_succ_cons,List.take_zero,S.lds (b:=b1) (o:=0) (n:=6) m0 (lbt rfl)]
 refine step_ret (made20_ok S.ok (hB.grO S.gr) (hM.grO S.gr) af fN) ?_
 rintro r h ⟨g,γ,vx,vy,va,bp,nb,vR,l,rfl,k,ga,A,sR,hl,ai,be,_,kN,nR⟩
 replace S:=S.call g
 have fx:=ga.X.fl
 have fy:=ga.Y.fl
 have fa:=ga.A.fl
 have fR:=sR.fl
 have n1:=k.n1
 have n2:=k.n2
 have O:=S.row (b:=b1) m0
 have g0:=S.gr
 have ak:=S.ok
 rename Hp=>hA
 clear S kN nR
 have S:=Si ak
 simp only [BS,LB,Nat.reduceLT,Nat.reduceEqDiff,Fb,iF]
 refine ae aA S ?_;clear S;intro h b3 S ba
 simp only [BS,LB,Nat.reduceLT,Nat.reduceEqDiff]
 refine az (S.store (i:=0) rfl Tryz.t31.2.1 (by intro x e;cases e) rfl (by simp only [ah,List.all_cons,List.all_nil,fx.2.1,fy.2.1,fa.2.1,Xg];rfl) (lbt rfl) ono) ?_
 clear S;rintro h ⟨S,P⟩;clear P
 simp only [LC,ah,lay,Xd,Xe,Nat.reduceAdd]at S
 have U:h.load b1 0 6=some [vB,vM,.int .u8 (f:Nat),.int .u8 (t:Nat),.int .i8 xa,vN]:=(O.gr S.gr).load (Xm 6)
 have l3:h.load b3 0 4=some [.int .i64 γ.nodes,vx,vy,va]:=(S.row (b:=b3) m0).load (Xm 4)
 simp only [BS,LB,Nat.reduceLT,Nat.reduceEqDiff,Fb,U,l3]
 have qo:=A8 (γ:=γ) (a:=xa) S.ok fB fM fN fx fy fa hf ht n1
 unfold iF at qo
 refine step_ret qo ?_
 rintro r h ⟨g,rfl⟩
 have J:f%γ.nodes<γ.nodes:=XE _ (by omega)
 have hw:t%γ.nodes<γ.nodes:=XE _ (by omega)
 generalize f%γ.nodes=s at J
 generalize t%γ.nodes=w at hw
 generalize an .i64 xa=a'
 replace S:=S.call g
 simp only [BS,Fb]
 refine ae aA S ?_;clear S;intro h b6 S bb
 simp only [BS,LB,Nat.reduceLT,Nat.reduceEqDiff]
 refine az (S.store (i:=0) rfl Tryz.t28.2.1 (by intro x e;cases e) rfl rfl (lbt rfl) ono) ?_
 clear S;rintro h ⟨S,P⟩;clear P
 simp only [LC,ah,lay,Xd,Xe,Nat.reduceAdd]at S
 have R3:=S.row (b:=b3) m1
 have p:=S.row (b:=b6) m0
 replace O:=O.gr S.gr
 have V:=S.gr
 have E:=S.ok
 rename Hp=>hB1
 clear S
 have S:=Si E
 have y1:=O.lt E
 have y3:=R3.lt E
 have U:=O.load (o:=0) (n:=6) (Xm 6)
 have W:=R3.load1 (o:=0) rfl
 simp only [Xe,Xd]at U
 simp only [BS]
 refine aB (aG rfl) (q:=0) (ps:=[(2,5),(2,3)]) (by kernel_rfl) ?_
 simp only [BS,LB,cls,Nat.reduceLT,Nat.reduceEqDiff,Nat.reduceAdd,Nat.reducePow,Nat.reduceDiv,Nat.reduceMod,Nat.reduceLeDiff]
 refine cV (tabOf_ok S.ok k (A.gr (V.trans S.gr)) (sR.gr (V.trans S.gr)) (by omega)) ?_
 rintro pt h ⟨g5,K⟩
 replace K:=(K.resolve_left (fun h=>h.1 hl)).2
 obtain⟨bt,et⟩: ∃b,pt=ptrTo b:=by obtain⟨b,_,_,_,e,_⟩:=K.ex;exact⟨b,e⟩
 subst et
 have e1:=ar g5 (Xa y1 S.gr.n)
 have e3:=ar g5 (Xa y3 S.gr.n)
 replace S:=S.call g5
 simp only [BS,LB,cls,Nat.reduceLT,Nat.reduceEqDiff,Nat.reduceAdd,Nat.reducePow,Nat.reduceDiv,Nat.reduceMod,Nat.reduceLeDiff,Fb,S.gr.load U,S.gr.load W]
 refine cV (Ag S.ok fB fM (hN.grO (g0.trans (V.trans S.gr))) n1 n2 (sR.gr (V.trans S.gr)) hl (by omega)) ?_
 rintro pu h ⟨X,mU,RU,QU,hU,al,ax⟩
 obtain⟨bu,et⟩: ∃b,pu=ptrTo b:=by obtain⟨b,_,_,_,e,_⟩:=hU.ex;exact⟨b,e⟩
 subst et
 have d1:=ar X (Xa y1 S.gr.n)
 have d3:=ar X (Xa y3 S.gr.n)
 replace S:=S.call X
 replace K:=K.gr X
 simp only [BS,LB,cls,Nat.reduceLT,Nat.reduceEqDiff,Nat.reduceAdd,Nat.reducePow,Nat.reduceDiv,Nat.reduceMod,Nat.reduceLeDiff,twoT_of]
 refine⟨by simp only [bn,bE,aT,bJ,aV,ne_eq,not_false_eq_true,bK,bZ,bg,aX,cb,cM,aO,Nat.reduceLT,Nat.reduceEqDiff,reduceIte,Xg,ag,aD e1,av e1,aD e3,av e3,aD d1,av d1,aD d3,av d3],?_⟩
 have gC:=V.trans S.gr
 replace p:=p.gr S.gr
 have ay:=S.ok
 clear S e1 e3 d1 d3 U W g5 X
 rename Hp=>hC
 replace A:=A.gr gC
 have aL: ∀j,j<2-> ∃pb m R Q,TabAt hC m (ptrTo pb) γ.nodes l R Q/\(∀i,i<l.length->(R i).length=γ.nodes)/\(∀i,i<l.length->(Q i).length=γ.nodes)/\(if j=0 then ptrTo bt else ptrTo bu)=ptrTo pb:=fun j _=>by
  by_cases e:j=0
  . exact⟨bt,_,_,_,K,fun i _=>toR_len,fun i _=>frR_len,if_pos e⟩
  . exact⟨bu,_,_,_,hU,al,ax,if_neg e⟩
 refine bL (fun(j:Nat) C h'=>j<=2/\Gr hC h'/\C 1=ptrTo b1/\C 3=ptrTo b3/\C 4=ptrTo bp/\C 5=vR/\C 6=ptrTo b6/\C 32=.agg ⟨[ptrTo bt,ptrTo bu]⟩/\C 33=.int .i64 j) (fun j=>2-j) ?_ 0 _ _ ?_
 . intro j ih C h ⟨hj,gj,r1,r3,r4,r5,r6,r32,r33⟩
   have wj:an .i64 ((j:Int)+1)=((j+1:Nat):Int):=by rw [wrap64]<;>omega
   have a0:=gj.ok
   have S:=Si a0
   by_cases Y:j<2
   . have c3:(j:Int)<2:=by omega
     obtain⟨pb,m,R,Q,T,lR,lQ,ep⟩:=aL j Y
     have F:=twoT_at (a:=ptrTo bt) (b:=ptrTo bu) Y
     rw [ep]at F
     simp only [ag]at F
     replace p:=p.gr gj
     have L:=p.load (o:=0) (n:=4) (Xm 4)
     have u:=p.load1 (o:=1) rfl
     have v:=p.load1 (o:=2) rfl
     have G:=p.load1 (o:=3) rfl
     simp only [Xe,Xd]at L
     simp only [BS,LB,Nat.reduceLT,Nat.reduceEqDiff,Fb,r4,r6,r32,r33,c3,F,L]
     refine step_ret (Bh S.ok k (A.gr gj) (T.gr gj) lR lQ (by omega) ai aY J hw) ?_
     rintro r h ⟨g,c,d,vA,a1,vE,rfl,nV,hr⟩
     have a2:Fl vA/\Fl a1/\Fl vE:=by
      rcases hr with⟨_,_,_,rfl,rfl,rfl⟩|⟨_,τ,_,H,⟨_,_,_,rfl,rfl⟩|⟨_,_,_,sA,sB⟩⟩
      . exact⟨bq,bq,bq⟩
      . exact⟨bq,bq,H.fl⟩
      . exact⟨sA.fl,sB.fl,H.fl⟩
     obtain⟨fA,a3,fE⟩:=a2
     have gQ:=gj.trans g
     have a4:=g.ok
     clear S
     have S:=Si a4
     replace p:=p.gr g
     simp only [BS,LB,Nat.reduceLT,Nat.reduceEqDiff,Fb,ansV]
     refine ae aA S ?_;clear S;intro h b9 S bc
     simp only [BS,LB,Nat.reduceLT,Nat.reduceEqDiff]
     refine az (S.store (i:=0) rfl Tryz.t47.2.1 (by intro x e;cases e) rfl (by simp only [ah,List.all_cons,List.all_nil,fA.2.1,a3.2.1,Xg];rfl) (lbt rfl) ono) ?_
     clear S;rintro h7 ⟨S,P⟩
     simp only [LC,ah,lay,Xd,Xe,Nat.reduceAdd]at S
     have M:=S.row (b:=b9) m0
     obtain⟨xs,H,N⟩: ∃xs,au h7 4 dB vE xs/\EvK γ xs:=by
      rcases hr with⟨_,_,_,_,_,rfl⟩|⟨_,τ,he,H,_⟩
      . exact⟨[],.inl ⟨rfl,rfl⟩,EvK.nil⟩
      . exact⟨_,H.gr S.gr,twin_evK k J hw he⟩
     replace p:=p.gr S.gr
     have D:=gQ.trans S.gr
     have gS:=S.gr
     have I:=S.ok
     clear S L u v G P
     rename Hp=>hK
     have S:=Si I
     have L:=p.load (o:=0) (n:=4) (Xm 4)
     have u:=p.load1 (o:=1) rfl
     have v:=p.load1 (o:=2) rfl
     have G:=p.load1 (o:=3) rfl
     have l9:=M.load (o:=0) (n:=4) (Xm 4)
     have y:=M.load1 (o:=0) rfl
     have a5:=M.load1 (o:=1) rfl
     have bf:=M.load1 (o:=2) rfl
     have Z:=M.load1 (o:=3) rfl
     simp only [Xe,Xd]at L l9
     simp only [BS,LB,Nat.reduceLT,Nat.reduceEqDiff,r4]
     refine am (yX S.ok (A.gr D) H N.len N.ok N.nd) ?_
     intro h g;replace S:=S.call g;clear g
     simp only [BS,LB,Nat.reduceLT,Nat.reduceEqDiff,r4]
     refine am (wW S.ok (A.gr (D.trans S.gr)) (H.gr S.gr) N.len N.ok N.hd) ?_
     intro h g;replace S:=S.call g;clear g
     simp only [BS,LB,Nat.reduceLT,Nat.reduceEqDiff,Fb,r4,r6,S.gr.load L,S.gr.load l9]
     rcases hr with⟨rfl,rfl,rfl,rfl,rfl,rfl⟩|⟨bh,τ,he,_,⟨_,rfl,rfl,rfl,rfl⟩|⟨hd,rfl,rfl,sA,sB⟩⟩
     . refine am (wJ S.ok k (A.gr (D.trans S.gr)) aY aY J (.inl ⟨rfl,rfl⟩:au _ 1 cB _ []) bq (by simp) (.nil) (d:=0)) ?_
       intro h g;replace S:=S.call g;clear g
       simp only [BS,LB,Nat.reduceLT,Nat.reduceEqDiff,Fb,S.gr.load y]
       refine aB (aG rfl) (q:=0) (ps:=[(12,20)]) (by kernel_rfl) ?_
       simp only [BS,LB,cls,Nat.reduceLT,Nat.reduceEqDiff,Nat.reduceAdd,Nat.reducePow,Nat.reduceDiv,Nat.reduceMod,Nat.reduceLeDiff,Fb,r6,S.gr.load y,S.gr.load u,S.gr.load v]
       refine⟨by simp only [bn,bE,aT,bJ,aV,ne_eq,not_false_eq_true,bK,bZ,bg,aX,cb,cM,aO,Nat.reduceLT,Nat.reduceEqDiff,reduceIte,Xg,r1,r3,r4,r5,r6,r32,r33,ag];rfl,?_⟩
       simp only [BS,LB,Nat.reduceLT,Nat.reduceEqDiff,Int.reduceLT,zN,Fb,r33,S.gr.load y,S.gr.load a5,S.gr.load Z,S.gr.load u,S.gr.load v,wj]
       exact ih (j+1) _ _ (by omega) ⟨by omega,D.trans S.gr,by simp [aa,r1,ag],by simp [aa,r3,ag],by simp [aa,r4,ag],by simp [aa,r5],by simp [aa,r6,ag],by simp [aa,r32],by simp [aa]⟩
     . refine am (walksE_ok S.ok aY aY aY aY (c:=20) (by decide)) ?_
       intro h g;replace S:=S.call g;clear g
       simp only [BS,LB,Nat.reduceLT,Nat.reduceEqDiff,Fb,S.gr.load y,(by decide: ¬(20:Int)=0)]
       refine aB (aG rfl) (q:=0) (ps:=[(12,20)]) (by kernel_rfl) ?_
       simp only [BS,LB,cls,Nat.reduceLT,Nat.reduceEqDiff,Nat.reduceAdd,Nat.reducePow,Nat.reduceDiv,Nat.reduceMod,Nat.reduceLeDiff,Fb,r6,S.gr.load y,S.gr.load u,S.gr.load v,(by decide: ¬(20:Int)=0)]
       refine⟨by simp only [bn,bE,aT,bJ,aV,ne_eq,not_false_eq_true,bK,bZ,bg,aX,cb,cM,aO,Nat.reduceLT,Nat.reduceEqDiff,reduceIte,Xg,r1,r3,r4,r5,r6,r32,r33,ag];rfl,?_⟩
       have z: ¬((s:Int)=(w:Int)):=by omega
       simp only [BS,LB,Nat.reduceLT,Nat.reduceEqDiff,r33,S.gr.load u,S.gr.load v,z,wj]
       exact ih (j+1) _ _ (by omega) ⟨by omega,D.trans S.gr,by simp [aa,r1,ag],by simp [aa,r3,ag],by simp [aa,r4,ag],by simp [aa,r5],by simp [aa,r6,ag],by simp [aa,r32],by simp [aa]⟩
     . obtain⟨hp,a6⟩:=twin_any k J hw he hd
       refine am (wJ S.ok k (A.gr (D.trans S.gr)) aY aY J ((sA.gr gS).gr S.gr) sB.fl a6 hp) ?_
       intro h g;replace S:=S.call g;clear g
       have z: ¬((s:Int)=(w:Int)):=by omega
       simp only [BS,LB,Nat.reduceLT,Nat.reduceEqDiff,Fb,S.gr.load y]
       have y6:=Xa (p.lt I) S.gr.n
       have y9:=Xa (M.lt I) S.gr.n
       refine aB (aG rfl) (q:=0) (ps:=[(12,20)]) (by kernel_rfl) ?_
       simp only [BS,LB,cls,Nat.reduceLT,Nat.reduceEqDiff,Nat.reduceAdd,Nat.reducePow,Nat.reduceDiv,Nat.reduceMod,Nat.reduceLeDiff,Fb,r6,S.gr.load y,S.gr.load u,S.gr.load v,S.gr.load G,S.gr.load Z,z]
       refine cV (uF S.ok (T.gr (D.trans S.gr)) lR lQ (by omega)) ?_
       rintro bi h ⟨g,ad,_⟩
       have e6:=ar g y6
       have e9:=ar g y9
       have z6:=Xa y6 g.n
       have z9:=Xa y9 g.n
       replace S:=S.call g;clear g
       have bk:=ad.fl
       simp only [BS,LB,cls,Nat.reduceLT,Nat.reduceEqDiff,Nat.reduceAdd,Nat.reducePow,Nat.reduceDiv,Nat.reduceMod,Nat.reduceLeDiff]
       refine df (rows20_ok S.ok ((sB.gr gS).gr S.gr) ad (by unfold actL;rw [Xp];omega)) ?_
       intro h g
       have d6:=ar g z6
       have d9:=ar g z9
       replace S:=S.call g;clear g
       simp only [BS,LB,cls,Nat.reduceLT,Nat.reduceEqDiff,Nat.reduceAdd,Nat.reducePow,Nat.reduceDiv,Nat.reduceMod,Nat.reduceLeDiff,Fb,r6]
       refine⟨by simp only [bn,bE,aT,bJ,aV,ne_eq,not_false_eq_true,bK,bZ,bg,aX,cb,cM,aO,Nat.reduceLT,Nat.reduceEqDiff,reduceIte,Xg,r1,r3,r4,r5,r6,r32,r33,ag,aD e6,av e6,aD e9,av e9,aD d6,av d6,aD d9,av d9],?_⟩
       simp only [BS,LB,Nat.reduceLT,Nat.reduceEqDiff,Fb,r6,r33,S.gr.load u,S.gr.load v,z,wj]
       exact ih (j+1) _ _ (by omega) ⟨by omega,D.trans S.gr,by simp [aa,r1,ag],by simp [aa,r3,ag],by simp [aa,r4,ag],by simp [aa,r5],by simp [aa,r6,ag],by simp [aa,r32],by simp [aa]⟩
   . have c3: ¬(j:Int)<2:=by omega
     simp only [BS,LB,ac,Nat.reduceLT,Nat.reduceEqDiff,r33,c3]
     exact g0.trans (gC.trans gj)
 . exact⟨by omega,Gr.refl ay,by simp [aa,ag],by simp [aa,ag],by simp [aa,ag],by simp [aa,ag],by simp [aa,ag],by simp [aa,ag],by simp [aa]⟩
end Go.Ab
end
section
namespace Go.Ab
open Go.ChangeShapes Go.WideShapes Go.RowKit
theorem rowAt_le{P:Program}{b:TypeId->Bool}{d:Nat}{e:TypeId}{a off n:Nat}(h:rowAt P b d e a off n=true):off<=a*P.cellsOf e:=by
 cases d with
 |zero=>cases h
 | succ d=>
   unfold rowAt at h
   simp only []at h
   split at h
   . cases h
   . rename_i i
     have c:0<P.cellsOf e:=by omega
     have f:=Nat.div_add_mod off (P.cellsOf e)
     simp only [Bool.or_eq_true,Bool.and_eq_true,beq_iff_eq,decide_eq_true_eq]at h
     rcases h with⟨⟨g,j⟩,_⟩|⟨g,_⟩
     . have:P.cellsOf e*(off/P.cellsOf e)<=P.cellsOf e*a:=Nat.mul_le_mul_left _ (by omega)
       rw [Nat.mul_comm a];omega
     . have:P.cellsOf e*(off/P.cellsOf e+1)<=P.cellsOf e*a:=Nat.mul_le_mul_left _ (by omega)
       have hlt:=XE off c
       rw [Nat.mul_add,Xl]at this
       rw [Nat.mul_comm a];omega
theorem liesAt_le{P:Program}{d:Nat}: ∀{e:TypeId} {a off:Nat} {u:TypeId} {n:Nat},liesAt P d e a off u n=true->off<=a*P.cellsOf e:=by
 induction d with
 |zero=>intro e a off u n h;cases h
 | succ d b=>
   intro e a off u n h
   unfold liesAt at h
   rw [Bool.or_eq_true]at h
   rcases h with h|h
   . exact rowAt_le h
   . split at h
     . exact b h
     . cases h
theorem has_W{P:Program}{W:World}{r:_root_.Go.Reach}{base:Nat}{a:Addr}{e:TypeId}{n:Nat}(h:W.has P r base a e n):a.spot=none/\a.block<W.heap.size/\ ∃l,(hpW W).load (a.block+16) a.off 0=some l:=by
 obtain⟨_,f,i,c,b,k⟩:=h
 have hle:=liesAt_le k
 have d:a.off<=c:=XO hle (Nat.div_mul_le_self _ _)
 unfold World.shape? at b
 split at b
 next m el q g=>
  cases b
  have hlt:=(Array.getElem?_eq_some_iff.1 g).1
  have p:Row (hpW W) (a.block+16) (m.toList.map (jo W.heap.size)) 0:=⟨_,_,by rw [qW,g];rfl,Tr.sized_ofList _,fun j=>Tr.get_ofList _ j⟩
  exact⟨f,hlt,_,p.load (o:=a.off) (n:=0) (by simpa using d)⟩
 . cases b
section
variable{H:Type}{enc:TypeId×Value->H}{P:Program}
theorem og{W:World}{base n:Nat}{s e:TypeId}{k:IntKind}{c:Value}{C:Nat->Bool}{D:Bool}{x:DataW H×List MemPlace}(v:P.underlying s=some (.slice e))(E:P.underlying e=some (.int k))(F:P.cellsOf e=1)
 (b:Cell.okWide P W .any base s c) (h:DataW.trod enc P W 0 C D n s [c]=some x): ∃d:List Int,SlW (hpW W) k (jo W.heap.size c) d/\(∀z∈d,(Lit.int k z).wf=true)/\d.length<=9223372036854775807:=by
 rcases Go.ChangeShapes.open_ints v E F h with⟨w,_⟩|⟨a,g,o,d,w,J,A,K,p,_,j,y⟩
 . cases w
   exact⟨[],.inl ⟨rfl,rfl⟩,fun z p=>(by cases p),by simp⟩
 . cases w
   unfold Cell.okWide at b
   rw [v]at b
   simp only [Cell.ok,v]at b
   obtain⟨B,q,r⟩:=b
   obtain⟨t,hlt,G⟩:=has_W r
   have m:g<=d.length:=by rw [p];split<;>omega
   refine⟨d.take g,.inr ⟨a.block+16,a.off,o,?_,?_,?_⟩,fun z p=>y z (List.mem_of_mem_take p),by
    have:(o:Int)<=9223372036854775807:=q
    rw [Xp];omega⟩
   . rw [Xp,XJ m]
     simp only [jo,if_pos A,if_pos (And.intro t hlt)]
   . rw [Xp,XJ m];exact A
   . rw [Xp,XJ m,Xl]
     rw [load_join (f:=fun i=>.int k (d.getD i 0)) G (fun i u=>load_W t (j i (by omega)))]
     congr 1
     have I: ∀l:List Int,l.flatMap (encI k)=l.map fun x=>.int k x:=fun l=>by
      rw [XM,List.map_eq_flatMap,XM];rfl
     rw [I]
     refine List.ext_getElem? fun i=>?_
     rw [List.getElem?_map,List.getElem?_map,List.getElem?_take]
     by_cases u:i<g
     . rw [if_pos u,List.getElem?_range u,Xo (show i<d.length by omega)]
       simp [Xc,show i<d.length by omega]
     . rw [if_neg u,List.getElem?_eq_none (by simpa using u)];rfl
theorem open_slV{W:World}{base:Nat}{s e:TypeId}{k:IntKind}{v:Value}{j:Nat->Bool}{m:Bool}{d:DataW H}{p:List MemPlace}(c:P.underlying s=some (.slice e))(n:P.underlying e=some (.int k))(o:P.cellsOf e=1)
 (a:Value.okWide P W .any base s v) (h:DataW.Trod enc P W 0 j m s v d p): ∃f:List Int,SlW (hpW W) k (absA W.heap.size v) f/\(∀z∈f,(Lit.int k z).wf=true)/\f.length<=9223372036854775807:=by
 unfold Value.okWide at a
 rw [c]at a
 obtain⟨i,h⟩:=h
 have b: ∀l:Array Value,v≠ .agg l:=by
  rintro l rfl
  simp only [Cell.okWide,c,Cell.ok]at a
 have g:v.cells.toList=[v]:=by cases v<;>first|rfl|exact absurd rfl (b _)
 rw [g]at h
 have q:absA W.heap.size v=jo W.heap.size v:=by cases v<;>first|rfl|exact absurd rfl (b _)
 rw [q]
 exact og c n o a h
theorem open_sl2{W:World}{base:Nat}{t s e:TypeId}{k:IntKind}{j m:Field}{v:Value}{C:Nat->Bool}{D:Bool}{d:DataW H}{p:List MemPlace}(r:P.underlying t=some (.struct #[j,m]))(E:j.offset=0)(o1:m.offset=1)(F:j.type=s)(t1:m.type=s)
 (u:P.underlying s=some (.slice e)) (w:P.underlying e=some (.int k)) (x:P.cellsOf e=1) (f:P.cellsOf s=1) (o:P.cellsOf t=2) (q:P.cellTypes P.depth t=some [s,s])
 (a:Value.okWide P W .any base t v) (h:DataW.Trod enc P W 0 C D t v d p):
 ∃(c0 g:Value) (xs ys:List Int),v=.agg #[c0,g]/\SlW (hpW W) k (jo W.heap.size c0) xs/\SlW (hpW W) k (jo W.heap.size g) ys/\(∀z∈xs,(Lit.int k z).wf=true)/\ ∀z∈ys,(Lit.int k z).wf=true:=by
 unfold Value.okWide at a
 rw [r]at a
 obtain⟨G,rfl,c,O,i,_,b⟩:=a
 rw [q]at i
 cases i
 rw [o]at c
 obtain⟨l⟩:=G
 simp only [List.size_toArray]at c
 obtain⟨c0,g,rfl⟩:=len2 c
 obtain⟨y,h⟩:=h
 obtain⟨Q,R,n,_,_,A,B⟩:=Go.ChangeShapes.trod_struct2 r h
 rw [E,F,f]at A
 rw [o1,t1,f]at B
 obtain⟨S,I,J⟩:=b 0 c0 rfl
 obtain⟨T,i,K⟩:=b 1 g rfl
 cases I
 cases i
 obtain⟨xs,L,M,_⟩:=og u w x J A
 obtain⟨ys,N,wy,_⟩:=og u w x K B
 exact⟨c0,g,xs,ys,rfl,L,N,M,wy⟩
end
end Go.Ab

end
section
namespace Go.Ab
open Go.ChangeShapes Go.WideShapes Go.RowKit
section
variable{H:Type}{enc:TypeId×Value->H}{P:Program}
theorem len6g{α:Type}{l:List α}(h:l.length=6): ∃a b c d e f,l=[a,b,c,d,e,f]:=by
 match l,h with
 | [a,b,c,d,e,f],_=>exact⟨a,b,c,d,e,f,rfl⟩
theorem open_d20{W:World}{base:Nat}{t f k I e5 g m:TypeId}{s A C D E F:Field}{v:Value}{sp:Nat->Bool}{hd:Bool}{d:DataW H}{p:List MemPlace}(L:P.underlying t=some (.struct #[s,A,C,D,E,F]))(o0:s.offset=0)(o1:A.offset=1)(o2:C.offset=2)(o3:D.offset=3)(o4:E.offset=4)(o5:F.offset=5)
 (t0:s.type=f) (t1:A.type=f) (t2:C.type=g) (t3:D.type=g) (t4:E.type=m) (t5:F.type=k) (h0:P.underlying f=some (.slice I)) (G:P.underlying g=some (.int .u8)) (h4:P.underlying m=some (.int .i8)) (h5:P.underlying k=some (.slice e5))
 (O:P.underlying I=some (.int .u8)) (g5:P.underlying e5=some (.int .i64)) (c0:P.cellsOf I=1) (c5:P.cellsOf e5=1) (Q:P.cellsOf f=1) (R:P.cellsOf g=1) (d4:P.cellsOf m=1) (d5:P.cellsOf k=1) (J:P.cellsOf t=6) (K:P.cellTypes P.depth t=some [f,f,g,g,m,k])
 (c:Value.okWide P W .any base t v) (h:DataW.Trod enc P W 0 sp hd t v d p):
 ∃ (a b e:Value) (x y z:Int) (B M N:List Int),v=.agg #[a,b,.int .u8 x,.int .u8 y,.int .i8 z,e]/\SlW (hpW W) .u8 (jo W.heap.size a) B/\SlW (hpW W) .u8 (jo W.heap.size b) M/\SlW (hpW W) .i64 (jo W.heap.size e) N/\
   (∀z∈B,(Lit.int .u8 z).wf=true)/\(∀z∈M,(Lit.int .u8 z).wf=true)/\(Lit.int .u8 x).wf=true/\(Lit.int .u8 y).wf=true/\(Lit.int .i8 z).wf=true/\M.length<=9223372036854775807:=by
 unfold Value.okWide at c
 rw [L]at c
 obtain⟨cs,rfl,i,ts,S,_,o⟩:=c
 rw [K]at S
 cases S
 rw [J]at i
 obtain⟨l⟩:=cs
 simp only [List.size_toArray]at i
 obtain⟨a,b,x,y,z,e,rfl⟩:=len6g i
 obtain⟨T,h⟩:=h
 obtain⟨xs,n,_,_,hl,q,hf⟩:=DataW.trod_struct L h
 obtain⟨y0,y1,y2,y3,y4,y5,rfl⟩:=len6g (by rw [q];rfl:xs.length=6)
 have U:=hf 0 s rfl
 have V:=hf 1 A rfl
 have X:=hf 2 C rfl
 have Y:=hf 3 D rfl
 have Z:=hf 4 E rfl
 have q5:=hf 5 F rfl
 rw [o0,t0,Q]at U
 rw [o1,t1,Q]at V
 rw [o2,t2,R]at X
 rw [o3,t3,R]at Y
 rw [o4,t4,d4]at Z
 rw [o5,t5,d5]at q5
 have r: ∀(j:Nat) t v,[f,f,g,g,m,k][j%6]? =some t->[a,b,x,y,z,e][j]? =some v->Cell.okWide P W .any base t v:=fun j t v h1 G=>by
  obtain⟨u,h3,h4⟩:=o j v (by simpa using G)
  obtain rfl:t=u:=Option.some.inj (h1.symm.trans h3)
  exact h4
 obtain⟨B,hB,wB,_⟩:=og h0 O c0 (r 0 f a rfl rfl) U
 obtain⟨M,hM,wM,lM⟩:=og h0 O c0 (r 1 f b rfl rfl) V
 obtain⟨N,hN,wN,lN⟩:=og h5 g5 c5 (r 5 k e rfl rfl) q5
 obtain⟨u,e2,_,wu⟩:=DataW.trod_int G X
 obtain⟨v,e3,_,wv⟩:=DataW.trod_int G Y
 obtain⟨w,e4,_,ww⟩:=DataW.trod_int h4 Z
 cases e2
 cases e3
 cases e4
 exact⟨a,b,e,u,v,w,B,M,N,rfl,hB,hM,hN,wB,wM,wu,wv,ww,lM⟩
end
end Go.Ab

end

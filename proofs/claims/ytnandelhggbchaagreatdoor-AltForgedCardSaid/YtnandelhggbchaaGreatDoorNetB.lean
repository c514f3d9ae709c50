/- Nets, cells, flags: what the functions do (part 2). -/
import Derived.Test.YtnandelhggbchaaGreatDoorNetA
open Go.Ab.Tryz
open Go.Ab.Tryz renaming abEnv->zj,e3E->Xs,e344E->Xv
open List renaming getD_eq_getElem?_getD->zk,mem_append_left->zl,getElem?_eq_getElem->zn,mem_append_right->zp,nodup_append->zq,mem_map_of_mem->zu,length_set->zw,map_cons->zz,getElem?_eq_none->zD,map_append->zF,getElem?_replicate->zH,length_take->zI,take->zJ,drop->zK,mem_of_getElem?->zL,mem_cons->zN,nodup_cons->zO,length_append->zP,ext_getElem?->zQ,getElem?_map->zR,replicate->zT,flatMap_eq_foldl->zU,range->zV,getElem_mem->zW,drop_eq_getElem_cons->zZ,not_mem_nil->Xa,length_replicate->Xd,mem_cons_of_mem->Xe,getElem?_append->Xf,filterMap_nil->Xi,getElem?_append_right->Xj,length_cons->Xl,length_nil->Xm,length_map->Xn,append_nil->Xo,length_singleton->Xr,mem_of_mem_take->Xw,getElem?_range->Xx,flatMap_append->Xy,map_eq_flatMap->Xz,map_nil->XB
open Prod renaming fst->zo
open Nat renaming lt_of_succ_le->zt,ble_eq_true_of_le->zx,zero_add->zG,zero_mul->zM,beq->zX,mul_one->zY,le_trans->z7,lt_of_lt_of_le->z8,one_mul->z9,ble->Xg,zero_le->Xh,beq_refl->Xk,le_refl->Xp,eq_of_beq_eq_true->Xq,blt_eq->Xu
open Int renaming cast_ofNat_Int->zy,ofNat_eq_natCast->Xt,ofNat->XA
open Option renaming isSome_none->zC,getD_none->Xb,getD_some->Xc
set_option maxHeartbeats 4000000
set_option linter.defProp false
set_option linter.unusedVariables false
set_option linter.unusedSimpArgs false
section
namespace Go.Ab
def EM(l:List (Int×Value×Nat)):List (Value×Value×Nat):=l.map fun p=>(.int .i64 p.1,p.2.1,p.2.2)
def dy(f:Int->Option Value)(x:Int)(v:Option Value):Int->Option Value:=fun y=>if y=x then v else f y
def cP(a:List (Value×Value×Nat))(c:Nat)(f:Int->Option Value):Prop:=
 ∃l,a=EM l/\(l.map zo).Nodup/\(l.map fun p=>p.2.2).Nodup/\(∀p∈l,p.2.2<c)/\ ∀x v,f x=some v↔ ∃n,(x,v,n)∈l
theorem oA{x y:Int}:aY (.int .i64 x) (.int .i64 y)=some (decide (x=y)):=by
 show some (fw x y)=_
 congr 1
 rw [mQ]
theorem xb{l:List (Int×Value×Nat)}(a:(l.map zo).Nodup){x:Int}{v:Value}{n:Nat}(h:(x,v,n)∈l):aJ (.int .i64 x) (EM l)=some (some (v,n)):=by
 induction l with
 |nil=>cases h
 | cons p l b=>
   obtain⟨y,w,m⟩:=p
   show(match aY (.int .i64 x) (.int .i64 y)with|none=>none|some true=>some (some (w,m))|some false=>aJ (.int .i64 x) (EM l))=_
   rw [oA]
   rw [zz,zO]at a
   by_cases e:x=y
   . subst e
     rw [decide_eq_true rfl]
     simp only []
     rcases List.mem_cons.1 h with h|h
     . cases h;rfl
     . exact absurd (zu (f:=zo) h) a.1
   . rw [decide_eq_false e]
     simp only []
     rcases List.mem_cons.1 h with h|h
     . cases h;exact absurd rfl e
     . exact b a.2 h
theorem find_miss{l:List (Int×Value×Nat)}{x:Int}(h:x∉l.map zo):aJ (.int .i64 x) (EM l)=some none:=by
 induction l with
 |nil=>rfl
 | cons p l a=>
   obtain⟨y,w,m⟩:=p
   show(match aY (.int .i64 x) (.int .i64 y)with|none=>none|some true=>some (some (w,m))|some false=>aJ (.int .i64 x) (EM l))=_
   rw [oA]
   simp only [zz,zN,not_or]at h
   rw [decide_eq_false h.1]
   exact a h.2
theorem pA{l:List (Int×Value×Nat)}(c:(l.map zo).Nodup){x:Int}{v:Value}{n:Nat}(h:(x,v,n)∈l):
 ∃a b,l=a++(x,v,n)::b/\(∀w,gp (.int .i64 x) w (EM l)=EM (a++(x,w,n)::b))/\iK (.int .i64 x) (EM l)=EM (a++b):=by
 induction l with
 |nil=>cases h
 | cons p l d=>
   obtain⟨y,w,m⟩:=p
   rw [zz,zO]at c
   by_cases e:x=y
   . subst e
     rcases List.mem_cons.1 h with h|h
     . cases h
       refine⟨[],l,rfl,fun u=>?_,?_⟩
       . show(match aY (.int .i64 x) (.int .i64 x)with|some true=>_|_=>_)=_
         rw [oA,decide_eq_true rfl];rfl
       . show(match aY (.int .i64 x) (.int .i64 x)with|some true=>_|_=>_)=_
         rw [oA,decide_eq_true rfl];rfl
     . exact absurd (zu (f:=zo) h) c.1
   . rcases List.mem_cons.1 h with h|h
     . cases h;exact absurd rfl e
     . obtain⟨a,b,g,i,j⟩:=d c.2 h
       refine⟨(y,w,m)::a,b,by rw [g];rfl,fun u=>?_,?_⟩
       . show(match aY (.int .i64 x) (.int .i64 y)with|some true=>_|_=>(Value.int .i64 y,w,m)::gp (.int .i64 x) u (EM l))=_
         rw [oA,decide_eq_false e,i];rfl
       . show(match aY (.int .i64 x) (.int .i64 y)with|some true=>_|_=>(Value.int .i64 y,w,m)::iK (.int .i64 x) (EM l))=_
         rw [oA,decide_eq_false e,j];rfl
theorem qV{a b:List (Int×Value×Nat)}{x:Int}{v w:Value}{n:Nat}(c:((a++(x,v,n)::b).map fun p=>p.2.2).Nodup):eg n w (EM (a++(x,v,n)::b))=some (EM (a++(x,w,n)::b)):=by
 induction a with
 | nil=>
   show(bif zX n n then _ else _)=_
   rw [Xk];rfl
 | cons p a d=>
   obtain⟨y,u,m⟩:=p
   rw [List.cons_append,zz,zO]at c
   have:zX m n=false:=by
    cases f:zX m n with
    |false=>rfl
    | true=>
      have e:=Xq f
      exact absurd (List.mem_map.2 ⟨(x,v,n),by simp,e.symm⟩) c.1
   show(bif zX m n then _ else match eg n w (EM (a++(x,v,n)::b))with|none=>none|some g=>some ((Value.int .i64 y,u,m)::g))=_
   rw [this,d c.2];rfl
theorem qC{a b:List (Int×Value×Nat)}{x:Int}{v:Value}{n:Nat}:(a++(x,v,n)::b).map zo=a.map zo++x::b.map zo:=by simp
section
variable{es:List (Value×Value×Nat)}{c:Nat}{f:Int->Option Value}{x:Int}
theorem vw:cP [] 0 (fun _=>none):=⟨[],rfl,.nil,.nil,fun _ h=>(by cases h),fun x v=>⟨fun h=>(by cases h),fun⟨_,h⟩=>(by cases h)⟩⟩
theorem cP.hit(h:cP es c f){v:Value}(hf:f x=some v): ∃n,aJ (.int .i64 x) es=some (some (v,n)):=by
 obtain⟨l,rfl,a,e,g,b⟩:=h
 obtain⟨n,d⟩:=(b x v).1 hf
 exact⟨n,xb a d⟩
theorem cP.miss(h:cP es c f)(hf:f x=none):aJ (.int .i64 x) es=some none:=by
 obtain⟨l,rfl,e,g,i,a⟩:=h
 refine find_miss fun b=>?_
 obtain⟨⟨y,v,n⟩,d,rfl⟩:=List.mem_map.1 b
 have:=(a y v).2 ⟨n,d⟩
 rw [hf]at this;cases this
theorem rN{a b:List (Int×Value×Nat)}{v w:Value}{n:Nat}(i:((a++(x,v,n)::b).map zo).Nodup)(j:((a++(x,v,n)::b).map fun p=>p.2.2).Nodup)(h3: ∀p∈a++(x,v,n)::b,p.2.2<c)
 (h4: ∀x' v',f x'=some v'↔ ∃k,(x',v',k)∈a++(x,v,n)::b):cP (EM (a++(x,w,n)::b)) c (dy f x (some w)):=by
 have h:=i
 rw [qC,zq]at h
 refine⟨_,rfl,by rw [qC];rwa [qC]at i,by rw [zF,zz]at j⊢;exact j,fun p g=>?_,fun y u=>?_⟩
 . rcases List.mem_append.1 g with g|g
   . exact h3 p (by simp [g])
   . rcases List.mem_cons.1 g with rfl|g
     . exact h3 (x,v,n) (by simp)
     . exact h3 p (by simp [g])
 . unfold dy
   by_cases e:y=x
   . subst e
     rw [if_pos rfl]
     constructor
     . intro e;cases e;exact⟨n,by simp⟩
     . rintro⟨m,d⟩
       rcases List.mem_append.1 d with d|d
       . exact absurd rfl (h.2.2 y (zu (f:=zo) d) y (by simp))
       . rcases List.mem_cons.1 d with d|d
         . cases d;rfl
         . exact absurd (zu (f:=zo) d) (List.nodup_cons.1 h.2.1).1
   . rw [if_neg e,h4]
     constructor<;>rintro⟨m,d⟩<;>refine⟨m,?_⟩
     . rcases List.mem_append.1 d with d|d
       . simp [d]
       . rcases List.mem_cons.1 d with d|d
         . cases d;exact absurd rfl e
         . simp [d]
     . rcases List.mem_append.1 d with d|d
       . simp [d]
       . rcases List.mem_cons.1 d with d|d
         . cases d;exact absurd rfl e
         . simp [d]
theorem rj{l:List (Int×Value×Nat)}{w:Value}(k:(l.map zo).Nodup)(o:(l.map fun p=>p.2.2).Nodup)(h3: ∀p∈l,p.2.2<c)(h4: ∀x' v',f x'=some v'↔ ∃q,(x',v',q)∈l)(hf:f x=none):
 cP (EM (l++[(x,w,c)])) (c+1) (dy f x (some w)):=by
 have j:x∉l.map zo:=fun d=>by
  obtain⟨⟨y,v,n⟩,g,rfl⟩:=List.mem_map.1 d
  have:=(h4 y v).2 ⟨n,g⟩
  rw [hf]at this;cases this
 refine⟨_,rfl,?_,?_,fun p g=>?_,fun y u=>?_⟩
 . rw [zF,zq]
   exact⟨k,by simp,fun a i b h e=>j (by simp at h;subst h;subst e;exact i)⟩
 . rw [zF,zq]
   refine⟨o,by simp,fun a i b h e=>?_⟩
   simp at h;subst h
   obtain⟨p,g,rfl⟩:=List.mem_map.1 i
   have:=h3 p g;omega
 . rcases List.mem_append.1 g with g|g
   . have:=h3 p g;omega
   . simp at g;subst g;exact Nat.lt_succ_self c
 . unfold dy
   by_cases e:y=x
   . subst e
     rw [if_pos rfl]
     constructor
     . intro e;cases e;exact⟨c,by simp⟩
     . rintro⟨m,d⟩
       rcases List.mem_append.1 d with d|d
       . exact absurd (zu (f:=zo) d) j
       . simp at d;rw [d.1]
   . rw [if_neg e,h4]
     constructor<;>rintro⟨m,d⟩<;>refine⟨m,?_⟩
     . simp [d]
     . rcases List.mem_append.1 d with d|d
       . exact d
       . simp at d;exact absurd d.1 e
theorem em_app(l:List (Int×Value×Nat))(v:Value)(n:Nat):EM l++[(.int .i64 x,v,n)]=EM (l++[(x,v,n)]):=by unfold EM;rw [zF];rfl
theorem cP.put(h:cP es c f)(v:Value): ∃es' c',(match aJ (.int .i64 x) es with|none=>none|some (some _)=>some (gp (.int .i64 x) v es,c)|some none=>some (es++[(.int .i64 x,v,c)],c+1))=some (es',c')/\cP es' c' (dy f x (some v)):=by
 cases hf:f x with
 | none=>
   rw [h.miss hf]
   obtain⟨l,rfl,d,i,j,g⟩:=h
   exact⟨_,_,rfl,by rw [em_app];exact rj d i j g hf⟩
 | some w=>
   obtain⟨n,e⟩:=h.hit hf
   rw [e]
   obtain⟨l,rfl,d,i,j,g⟩:=h
   obtain⟨m,k⟩:=(g x w).1 hf
   obtain⟨a,b,rfl,o,_⟩:=pA d k
   exact⟨_,_,rfl,by rw [o];exact rN d i j g⟩
theorem del_miss{l:List (Int×Value×Nat)}(h:x∉l.map zo):iK (.int .i64 x) (EM l)=EM l:=by
 induction l with
 |nil=>rfl
 | cons p l a=>
   obtain⟨y,w,m⟩:=p
   simp only [zz,zN,not_or]at h
   show(match aY (.int .i64 x) (.int .i64 y)with|some true=>_|_=>(Value.int .i64 y,w,m)::iK (.int .i64 x) (EM l))=_
   rw [oA,decide_eq_false h.1,a h.2];rfl
theorem cP.del(h:cP es c f):cP (iK (.int .i64 x) es) c (dy f x none):=by
 obtain⟨l,rfl,o,j,t,k⟩:=h
 cases hf:f x with
 | none=>
   have z:x∉l.map zo:=fun d=>by
    obtain⟨⟨y,v,n⟩,i,rfl⟩:=List.mem_map.1 d
    have:=(k y v).2 ⟨n,i⟩
    rw [hf]at this;cases this
   rw [del_miss z]
   refine⟨l,rfl,o,j,t,fun y u=>?_⟩
   unfold dy
   by_cases e:y=x
   . subst e;rw [if_pos rfl];exact⟨fun h=>(by cases h),fun⟨n,g⟩=>absurd (zu (f:=zo) g) z⟩
   . rw [if_neg e];exact k y u
 | some w=>
   obtain⟨m,d⟩:=(k x w).1 hf
   obtain⟨a,b,rfl,_,C⟩:=pA o d
   rw [C]
   have A:=o
   rw [qC,zq]at A
   obtain⟨D,q,B⟩:=A
   rw [zO]at q
   refine⟨a++b,rfl,?_,?_,fun p i=>t p ?_,fun y u=>?_⟩
   . rw [zF,zq]
     exact⟨D,q.2,fun u r v s=>B u r v (by simp [s])⟩
   . rw [zF,zz,zq]at j
     rw [zF,zq]
     exact⟨j.1,(List.nodup_cons.1 j.2.1).2,fun u r v s=>j.2.2 u r v (Xe _ s)⟩
   . rcases List.mem_append.1 i with i|i<;>simp [i]
   . unfold dy
     by_cases e:y=x
     . subst e
       rw [if_pos rfl]
       refine⟨fun h=>(by cases h),fun⟨n,g⟩=>?_⟩
       rcases List.mem_append.1 g with g|g
       . exact absurd rfl (B y (zu (f:=zo) g) y (by simp))
       . exact absurd (zu (f:=zo) g) q.1
     . rw [if_neg e,k]
       constructor<;>rintro⟨m,d⟩<;>refine⟨m,?_⟩
       . rcases List.mem_append.1 d with d|d
         . simp [d]
         . rcases List.mem_cons.1 d with d|d
           . cases d;exact absurd rfl e
           . simp [d]
       . rcases List.mem_append.1 d with d|d<;>simp [d]
theorem cP.ent(h:cP es c f)(z:Value): ∃d q n,(match aJ (.int .i64 x) es with|none=>none|some (some (v,n))=>some (gp (.int .i64 x) v es,c,v,n)|some none=>some (es++[(.int .i64 x,z,c)],c+1,z,c))=some (d,q,(f x).getD z,n)/\cP d q (dy f x (some ((f x).getD z)))/\
 ∀w,∃es2,eg n w d=some es2/\cP es2 q (dy f x (some w)):=by
 cases hf:f x with
 | none=>
   rw [h.miss hf]
   obtain⟨l,rfl,g,i,j,o⟩:=h
   have k:=rj (w:=z) g i j o hf
   refine⟨_,_,_,rfl,by rw [em_app];exact k,fun w=>?_⟩
   rw [em_app]
   obtain⟨B,e,C,D,E,F⟩:=k
   have u:((l++(x,z,c)::[]).map fun p=>p.2.2).Nodup:=by
    rw [zF,zq]
    refine⟨i,by simp,fun a y b r e=>?_⟩
    simp at r;subst r
    obtain⟨p,A,rfl⟩:=List.mem_map.1 y
    have:=j p A;omega
   exact⟨_,qV u,rj g i j o hf⟩
 | some v=>
   obtain⟨l,rfl,g,i,j,o⟩:=h
   obtain⟨m,s⟩:=(o x v).1 hf
   rw [xb g s]
   obtain⟨a,b,rfl,t,_⟩:=pA g s
   refine⟨_,_,_,rfl,by rw [t];exact rN g i j o,fun w=>?_⟩
   rw [t]
   exact⟨_,qV (by simpa using i),rN g i j o⟩
end

section
variable{M:Nat->Prop}{h0 h:Hp}{L:List (Nat×Ob)}{G:List GL}{E:Env}{t kt el:TypeId}{b c:Nat}{es:List (Value×Value×Nat)}{f:Int->Option Value}{x:Int}
theorem nN(a:E.und kt=some (.int .i64)):aM E kt (.int .i64 x)=true:=by simp only [aM,a];rfl
theorem ow(a:E.und t=some (.map kt el))(d:E.und kt=some (.int .i64)){z:Value}(g:E.zeroV el=some z)(i:h.get b=some (.map es c))(m:cP es c f):
 bU E h t (.map (some b)) (.int .i64 x) true=some (.tuple #[(f x).getD z,.bool (f x).isSome]):=by
 simp only [bU,a,nN d,cond_true,i]
 cases hf:f x with
 |none=>rw [m.miss hf];simp [g]
 |some v=>obtain⟨n,e⟩:=m.hit hf;rw [e];simp
theorem lookI_v(a:E.und t=some (.map kt el))(d:E.und kt=some (.int .i64)){z:Value}(g:E.zeroV el=some z)(i:h.get b=some (.map es c))(m:cP es c f):
 bU E h t (.map (some b)) (.int .i64 x) false=some ((f x).getD z):=by
 simp only [bU,a,nN d,cond_true,i]
 cases hf:f x with
 |none=>rw [m.miss hf];simp [g]
 |some v=>obtain⟨n,e⟩:=m.hit hf;rw [e];simp
theorem jE{x:Blk}{es':List (Value×Value×Nat)}{c':Nat}(a:h.get b=some x):(h.put b (.map es' c')).get b=some (.map es' c'):=by rw [Hp.get_put,if_pos ⟨rfl,by rw [a];rfl⟩]
theorem St.mputI(S:St M h0 h L G){i:Nat}(e:L[i]? =some (b,.map es c))(j:E.und t=some (.map kt el))(k:E.und kt=some (.int .i64))(m:cP es c f)(v:Value):
 ∃d,c7 E h t (.map (some b)) (.int .i64 x) v=some d/\Mo (· =b) h d/\ ∃es' c',cP es' c' (dy f x (some v))/\St M h0 d (L.set i (b,.map es' c')) G:=by
 have g:h.get b=some (.map es c):=(S.own _ (zL e)).2
 obtain⟨es',c',a,l⟩:=m.put (x:=x) v
 refine⟨h.put b (.map es' c'),?_,(Mo.refl (M:=(· =b)) S.ok).put (.inr rfl) _,es',c',l,S.put e (o':=.map es' c') (jE g)⟩
 simp only [c7,gc,j,nN k,cond_true,g]
 revert a
 cases aJ (.int .i64 x) es with
 |none=>intro a;cases a
 | some r=>cases r with
   |none=>intro a;cases a;rfl
   |some _=>intro a;cases a;rfl
theorem St.mdelI(S:St M h0 h L G){i:Nat}(d:L[i]? =some (b,.map es c))(j:E.und t=some (.map kt el))(k:E.und kt=some (.int .i64))(m:cP es c f):
 ∃a,jN E h t (.map (some b)) (.int .i64 x)=some a/\Mo (· =b) h a/\ ∃es' c',cP es' c' (dy f x none)/\St M h0 a (L.set i (b,.map es' c')) G:=by
 have g:h.get b=some (.map es c):=(S.own _ (zL d)).2
 refine⟨h.put b (.map (iK (.int .i64 x) es) c),?_,(Mo.refl (M:=(· =b)) S.ok).put (.inr rfl) _,_,c,m.del (x:=x),S.put d (o':=.map _ c) (jE g)⟩
 simp only [jN,gc,j,nN k,cond_true,g]
 cases hf:f x with
 |none=>rw [m.miss hf]
 |some v=>obtain⟨n,e⟩:=m.hit hf;rw [e]
theorem St.mentI(S:St M h0 h L G){i:Nat}(j:L[i]? =some (b,.map es c))(l:E.und t=some (.map kt el))(o:E.und kt=some (.int .i64)){z:Value}(p:E.zeroV el=some z)(m:cP es c f):
 ∃ g n,fQ E h t (.map (some b)) (.int .i64 x)=some (g,.tuple #[(f x).getD z,.int .i64 (XA n)])/\Mo (· =b) h g/\ ∃es' c',cP es' c' (dy f x (some ((f x).getD z)))/\St M h0 g (L.set i (b,.map es' c')) G/\
   ∀w,∃es2,eg n w es'=some es2/\cP es2 c' (dy f x (some w)):=by
 have k:h.get b=some (.map es c):=(S.own _ (zL j)).2
 obtain⟨es',c',n,e,s,u⟩:=m.ent (x:=x) z
 refine⟨h.put b (.map es' c'),n,?_,(Mo.refl (M:=(· =b)) S.ok).put (.inr rfl) _,es',c',s,S.put j (o':=.map es' c') (jE k),u⟩
 simp only [fQ,gc,l,nN o,cond_true,k,p]
 revert e
 cases aJ (.int .i64 x) es with
 |none=>intro e;cases e
 | some r=>cases r with
   |none=>intro e;simp only [Option.some.injEq,Prod.mk.injEq]at e;obtain⟨a,b,c,d⟩:=e;subst a b d;rw [<-c]
   |some q=>obtain⟨v,y⟩:=q;intro e;simp only [Option.some.injEq,Prod.mk.injEq]at e;obtain⟨a,b,c,d⟩:=e;subst a b d;rw [<-c]
theorem St.mstoreI(S:St M h0 h L G){i n:Nat}(d:L[i]? =some (b,.map es c)){w:Value}{es2:List (Value×Value×Nat)}(g:eg n w es=some es2):
 ∃a,jf h (.map (some b)) (.int .i64 (XA n)) w=some a/\Mo (· =b) h a/\St M h0 a (L.set i (b,.map es2 c)) G:=by
 have e:h.get b=some (.map es c):=(S.own _ (zL d)).2
 refine⟨h.put b (.map es2 c),?_,(Mo.refl (M:=(· =b)) S.ok).put (.inr rfl) _,S.put d (o':=.map es2 c) (jE e)⟩
 simp only [jf,e,fo,g]
end
end Go.Ab

end
section
namespace Go.Ab
def iW(x:Hd):List Value:=[.int .i64 x.id,.int .i64 x.key]
theorem iD(x:Hd):(iW x).length=2:=rfl
structure c5(cs:List Value)(cap:Nat)(l:List Hd):Prop where
 len:cs.length=cap*2
 le:l.length<=cap
 at0: ∀i,i<l.length->cs[i*2]? =some (.int .i64 (l.getD i default).id)/\cs[i*2+1]? =some (.int .i64 (l.getD i default).key)
def iC(f:Int->Option Value)(l:List Hd):Prop:=(∀i,i<l.length->f (l.getD i default).id=some (.int .i64 i))/\ ∀x v,f x=some v-> ∃i,i<l.length/\x=(l.getD i default).id
section
variable{h:Hp}{bl cap i:Nat}{cs:List Value}{l:List Hd}{md:Nat}
theorem c5.ld0(c:c5 cs cap l)(r:Row h bl cs md)(a:i<l.length):h.load bl (i*2) 1=some [.int .i64 (l.getD i default).id]:=r.load1 (c.at0 i a).1
theorem c5.ld1(c:c5 cs cap l)(r:Row h bl cs md)(a:i<l.length):h.load bl (i*2+1) 1=some [.int .i64 (l.getD i default).key]:=r.load1 (c.at0 i a).2
theorem c5.ld2(c:c5 cs cap l)(r:Row h bl cs md)(a:i<l.length):h.load bl (i*2) 2=some [.int .i64 (l.getD i default).id,.int .i64 (l.getD i default).key]:=by
 have d:=(c.at0 i a).1
 have b:=(c.at0 i a).2
 have e:=(List.getElem?_eq_some_iff.1 b).1
 rw [r.load (by omega)]
 congr 1
 rw [zZ (by omega),zZ (by omega)]
 simp only [List.take_succ_cons,List.take_zero]
 rw [(List.getElem?_eq_some_iff.1 d).2,(List.getElem?_eq_some_iff.1 b).2]
theorem qY{x y:Value}(c:i*2+2<=cs.length)(j:Nat):(lay cs (i*2) [x,y])[j]? =if j=i*2 then some x else if j=i*2+1 then some y else cs[j]? :=by
 rw [ic (by simpa using c)]
 simp only [Xl,Xm]
 by_cases a:j=i*2
 . subst a;simp
 . by_cases b:j=i*2+1
   . subst b;simp
   . rw [if_neg a,if_neg b,if_neg (by omega)]
theorem c5.set(c:c5 cs cap l)(d:i<l.length)(x:Hd):c5 (lay cs (i*2) [.int .i64 x.id,.int .i64 x.key]) cap (l.set i x):=by
 have f:=c.len
 have hle:=c.le
 have a:i*2+2<=cs.length:=by omega
 refine⟨by rw [lV (by simpa using a)];exact f,by rw [zw];exact hle,fun j b=>?_⟩
 rw [zw]at b
 rw [qY a,qY a,iH]
 by_cases e:i=j
 . subst e;simp [d]
 . rw [if_neg (by omega),if_neg (by omega),if_neg (by omega),if_neg (by omega),if_neg (by omega)]
   exact c.at0 j b
theorem c5.setKey(c:c5 cs cap l)(a:i<l.length)(k:Int):c5 (lay cs (i*2+1) [.int .i64 k]) cap (l.set i ⟨(l.getD i default).id,k⟩):=by
 have f:=c.len
 have hle:=c.le
 have e:lay cs (i*2+1) [.int .i64 k]=lay cs (i*2) [.int .i64 (l.getD i default).id,.int .i64 k]:=by
  refine zQ fun j=>?_
  rw [qY (by omega),ic (by simp;omega)]
  simp only [Xl,Xm]
  by_cases b:j=i*2
  . subst b;rw [if_neg (by omega),if_pos rfl];exact(c.at0 i a).1
  . by_cases d:j=i*2+1
    . subst d;rw [if_pos (by omega)];simp
    . rw [if_neg (by omega),if_neg b,if_neg d]
 rw [e]
 exact c.set a ⟨(l.getD i default).id,k⟩
end
theorem set_sw(l:List Hd)(i k:Nat):(l.set i (l.getD k default)).set k (l.getD i default)=sw l i k:=rfl
theorem iC.inj{f:Int->Option Value}{l:List Hd}(h:iC f l){i j:Nat}(b:i<l.length)(c:j<l.length)(e:(l.getD i default).id=(l.getD j default).id):i=j:=by
 have a:=h.1 i b
 have d:=h.1 j c
 rw [e,d]at a
 injection a with a
 injection a with _ a
 omega
theorem iC.swap{f:Int->Option Value}{l:List Hd}(h:iC f l){i k:Nat}(c:i<l.length)(g:k<l.length):
 iC (dy (dy f ((sw l i k).getD i default).id (some (.int .i64 i))) ((sw l i k).getD k default).id (some (.int .i64 k))) (sw l i k):=by
 have m:=gb l c g i
 have o:=gb l c g k
 rw [if_pos rfl]at o
 refine⟨fun j n=>?_,fun x v p=>?_⟩
 . rw [fm]at n
   have d:=gb l c g j
   unfold dy
   by_cases a:j=k
   . subst a;rw [if_pos rfl]
   . rw [if_neg a]at d
     by_cases b:j=i
     . subst b
       rw [if_neg,if_pos rfl]
       rw [if_neg a,if_pos rfl]at m
       rw [m,o]
       intro e
       exact a (h.inj g c (by omega)).symm
     . rw [if_neg b]at d
       rw [if_neg,if_neg]
       . rw [d];exact h.1 j n
       . rw [d,m]
         intro e
         split at e
         . exact b (h.inj n c (by omega))
         . rename_i q;rw [if_pos rfl]at e;exact a (h.inj n g (by omega))
       . rw [d,o]
         intro e
         exact b (h.inj n c (by omega))
 . unfold dy at p
   by_cases a:x=((sw l i k).getD k default).id
   . exact⟨k,by rw [fm];exact g,a⟩
   . rw [if_neg a]at p
     by_cases b:x=((sw l i k).getD i default).id
     . exact⟨i,by rw [fm];exact c,b⟩
     . rw [if_neg b]at p
       obtain⟨j,n,e⟩:=h.2 x v p
       refine⟨j,by rw [fm];exact n,?_⟩
       have d:=gb l c g j
       by_cases q:j=k
       . subst q
         exfalso
         rw [e]at b
         by_cases e4:i=j
         . subst e4;rw [if_pos rfl]at m;exact b (by rw [m])
         . rw [if_neg e4,if_pos rfl]at m;exact b (by rw [m])
       . by_cases e4:j=i
         . subst e4;exfalso;rw [o]at a;exact a e
         . rw [if_neg q,if_neg e4]at d;rw [d];exact e
structure dZ(h:Hp)(bh bl bm cap:Nat)(n:Int)(l:List Hd):Prop where
 row:Row h bh [.slice (some ⟨bl,0,some 2⟩) l.length cap,.map (some bm),.int .i64 n] 1
 ex: ∃cs es c f,Row h bl cs 1/\h.get bm=some (.map es c)/\c5 cs cap l/\cP es c f/\iC f l
 ne:bh≠bl/\bh≠bm/\bl≠bm
theorem dZ.mo{M:Nat->Prop}{h k:Hp}{e i j cap:Nat}{n:Int}{l:List Hd}(r:dZ h e i j cap n l)(g:Mo M h k)(p: ¬M e)(q: ¬M i)(h3: ¬M j):dZ k e i j cap n l:=by
 obtain⟨s,m,c,f,a,b,d⟩:=r.ex
 exact⟨g.has (o:=.row _ 1) r.row p,⟨s,m,c,f,g.has (o:=.row _ 1) a q,g.has (o:=.map m c) b h3,d⟩,r.ne⟩
theorem dZ.mo1{M:Nat->Prop}{h f:Hp}{a b d cap:Nat}{n:Int}{l:List Hd}(r:dZ h a b d cap n l)(g:Mo M h f)(e: ∀c,c=a\/c=b\/c=d-> ¬M c):dZ f a b d cap n l:=
 r.mo g (e _ (.inl rfl)) (e _ (.inr (.inl rfl))) (e _ (.inr (.inr rfl)))
theorem dZ.lt{h:Hp}(e:h.t.Sized h.n){g i j cap:Nat}{n:Int}{l:List Hd}(r:dZ h g i j cap n l): ∀c,c=g\/c=i\/c=j->c<h.n:=by
 obtain⟨k,m,c,f,a,b,d⟩:=r.ex
 rintro c (rfl|rfl|rfl)
 . exact r.row.lt e
 . exact a.lt e
 . exact eX e b
theorem dZ.gr{h a:Hp}{b c d cap:Nat}{n:Int}{l:List Hd}(r:dZ h b c d cap n l)(g:Gr h a):dZ a b c d cap n l:=r.mo (M:=NoM) g.fr (fun h=>h) (fun h=>h) (fun h=>h)
theorem St.init2{M:Nat->Prop}{h:Hp}(e:h.t.Sized h.n){a b:Nat}{o1 o2:Ob}(f:Has h a o1)(g:Has h b o2)(c:a≠b)(m1:M a)(m2:M b):St M h h [(a,o1),(b,o2)] []:=by
 refine⟨Mo.refl e,fun p d=>?_,fun _ h=>(by cases h),by simp [keys,c]⟩
 simp only [zN,Xa,or_false]at d
 rcases d with rfl|rfl
 . exact⟨.inr m1,f⟩
 . exact⟨.inr m2,g⟩
theorem St.init3{M:Nat->Prop}{h:Hp}(e:h.t.Sized h.n){a b c:Nat}{o1 o2 o3:Ob}(f:Has h a o1)(g:Has h b o2)(h3:Has h c o3)(i:a≠b)(j:a≠c)(k:b≠c)(m1:M a)(m2:M b)(m3:M c):St M h h [(a,o1),(b,o2),(c,o3)] []:=by
 refine⟨Mo.refl e,fun p d=>?_,fun _ h=>(by cases h),by simp [keys,i,j,k]⟩
 simp only [zN,Xa,or_false]at d
 rcases d with rfl|rfl|rfl
 . exact⟨.inr m1,f⟩
 . exact⟨.inr m2,g⟩
 . exact⟨.inr m3,h3⟩
end Go.Ab

end
section
namespace Go.Ab
open Go.Proofs
set_option maxRecDepth 10000
def Tryz.FB:=aj t1<|aj t2<|aj t3<|aj t4<|aj t5<|aj t6<|aj Z2<|aj Z5<|t33
def Tryz.F0b:=aj t1<|aj t2<|aj t3<|aj t4<|aj t33<|aj t218<|aj t337<|aj Z6<|aj Z9<|t357
def Tryz.FP:=aj t1<|aj t2<|aj t3<|aj t218<|aj t337<|aj Z6<|aj Z9<|t357
def ji(a b:Int):Int:=if a<b then-1 else if b<a then 1 else 0
theorem u9{h0:Hp}(b:h0.t.Sized h0.n){a:Int}:aW zj 159 [.int .i64 a] h0 (.bool false):=by
 have S:=Si b
 refine ag (n:=6) (rs:=[.tmp 2]) rfl Tryz.e159 rfl rfl rfl (lbt rfl) ?_
 simp only [BS,LB,ae,Nat.reduceLT,Nat.reduceEqDiff]
 exact S.gr
theorem nanI_ok{h0:Hp}(b:h0.t.Sized h0.n){a:Int}:aW zj 283 [.int .i64 a] h0 (.bool false):=by
 have S:=Si b
 refine ag (n:=6) (rs:=[.tmp 2]) rfl Tryz.e283 rfl rfl rfl (lbt rfl) ?_
 simp only [BS,LB,ae,Nat.reduceLT,Nat.reduceEqDiff]
 exact S.gr
theorem uV{h0:Hp}(e:h0.t.Sized h0.n){a b:Int}:aW zj 84 [.int .i64 a,.int .i64 b] h0 (.int .i64 (ji a b)):=by
 have S:=Si e
 unfold ji
 refine ag (n:=20) (rs:=[.tmp 4]) rfl Tryz.e84 rfl rfl rfl (lbt rfl) ?_
 simp only [BS,LB,Nat.reduceLT,Nat.reduceEqDiff]
 refine ar (u9 S.ok) ?_;intro h g;replace S:=S.call g;clear g
 simp only [BS,LB,Nat.reduceLT,Nat.reduceEqDiff]
 refine ar (u9 S.ok) ?_;intro h g;replace S:=S.call g;clear g
 by_cases c:a<b
 . simp only [BS,LB,ae,Nat.reduceLT,Nat.reduceEqDiff,c]
   exact S.gr
 . by_cases d:b<a
   . simp only [BS,LB,ae,Nat.reduceLT,Nat.reduceEqDiff,c,d]
     exact S.gr
   . simp only [BS,LB,ae,Nat.reduceLT,Nat.reduceEqDiff,c,d]
     exact S.gr
theorem cmpInt_ok{h0:Hp}(e:h0.t.Sized h0.n){a b:Int}:aW zj 277 [.int .i64 a,.int .i64 b] h0 (.int .i64 (ji a b)):=by
 have S:=Si e
 unfold ji
 refine ag (n:=20) (rs:=[.tmp 4]) rfl Tryz.e277 rfl rfl rfl (lbt rfl) ?_
 simp only [BS,LB,Nat.reduceLT,Nat.reduceEqDiff]
 refine ar (nanI_ok S.ok) ?_;intro h g;replace S:=S.call g;clear g
 simp only [BS,LB,Nat.reduceLT,Nat.reduceEqDiff]
 refine ar (nanI_ok S.ok) ?_;intro h g;replace S:=S.call g;clear g
 by_cases c:a<b
 . simp only [BS,LB,ae,Nat.reduceLT,Nat.reduceEqDiff,c]
   exact S.gr
 . by_cases d:b<a
   . simp only [BS,LB,ae,Nat.reduceLT,Nat.reduceEqDiff,c,d]
     exact S.gr
   . simp only [BS,LB,ae,Nat.reduceLT,Nat.reduceEqDiff,c,d]
     exact S.gr
theorem or2_ok{h0:Hp}(p:h0.t.Sized h0.n){v:Value}{a b:Int}(g:ax h0 1 (encI .i64) v [a,b]):aW zj 276 [v] h0 (.int .i64 (if a=0 then b else a)):=by
 have S:=Si p
 obtain⟨h,j,q,e⟩:=g.ix (kd:=.i64) (cO .i64) (i:=0) (by simp)
 obtain⟨k,l,r,f⟩:=g.ix (kd:=.i64) (cO .i64) (i:=1) (by simp)
 have c:kz (some 1) v (.int .i64 0)=some (.pointer (some ⟨h,j,none⟩)):=q
 have d:kz (some 1) v (.int .i64 1)=some (.pointer (some ⟨k,l,none⟩)):=r
 replace e:h0.load h j 1=some [.int .i64 a]:=e
 replace f:h0.load k l 1=some [.int .i64 b]:=f
 have s:au .i64 1=1:=rfl
 have t:au .i64 2=2:=rfl
 refine ag (n:=18) (rs:=[.tmp 2]) rfl Tryz.e276 rfl rfl rfl (lbt rfl) ?_
 simp only [BS,LB,Nat.reduceLT,Nat.reduceEqDiff,Nat.reduceAdd,zy,FB,g.lenq]
 rw [ce]
 by_cases m:a=0
 . simp only [BS,LB,Nat.reduceLT,Nat.reduceEqDiff,Int.reduceLT,Int.reduceAdd,FB,c,e,m,s]
   rw [ce]
   by_cases o:b=0
   . simp only [BS,LB,Nat.reduceLT,Nat.reduceEqDiff,Int.reduceLT,Int.reduceAdd,FB,d,f,o,t]
     rw [ce]
     simp only [BS,LB,ae,Nat.reduceLT,Nat.reduceEqDiff,Int.reduceLT]
     exact S.gr
   . simp only [BS,LB,ae,Nat.reduceLT,Nat.reduceEqDiff,Int.reduceLT,FB,d,f,o]
     exact S.gr
 . simp only [BS,LB,ae,Nat.reduceLT,Nat.reduceEqDiff,Int.reduceLT,FB,c,e,m]
   exact S.gr
theorem vf{h0:Hp}(t:h0.t.Sized h0.n){u w B cap:Nat}{n:Int}{l:List Hd}(R:dZ h0 u w B cap n l){i k:Nat}(r:i<l.length)(s:k<l.length):
 aW zj 265 [ptrTo u,.int .i64 i,.int .i64 k] h0 (.bool (decide (hlt (l.getD i default) (l.getD k default)))):=by
 have S:=Si t
 obtain⟨F,G,c,f,d,H,C,I,J⟩:=R.ex
 have a:=R.row.load1 (o:=0) rfl
 have e:=C.ld0 d r
 have j:=C.ld1 d r
 have m:=C.ld0 d s
 have p:=C.ld1 d s
 refine ag (n:=44) (rs:=[.tmp 6]) rfl Tryz.e265 rfl rfl rfl (lbt rfl) ?_
 simp only [BS]
 refine aE (aK rfl) (q:=17179869184) (ps:=[(16,32),(16,28),(16,24),(16,20)]) (by kernel_rfl) ?_
 simp only [BS,LB,cls,Nat.reduceLT,Nat.reduceEqDiff,Nat.reduceAdd,Nat.reducePow,Nat.reduceDiv,Nat.reduceMod,Nat.reduceLeDiff,F0b,a,r,s,j,p]
 refine dg (uV S.ok) ?_
 intro h g;replace S:=S.call g
 replace a:=g.load a;replace e:=g.load e;replace j:=g.load j;replace m:=g.load m;replace p:=g.load p
 have x:leaves _ _ w=true:=aG g (d.lt t)
 have y:leaves _ _ u=true:=aG g (R.row.lt t)
 clear g
 simp only [BS,LB,cls,Nat.reduceLT,Nat.reduceEqDiff,Nat.reduceAdd,Nat.reducePow,Nat.reduceDiv,Nat.reduceMod,Nat.reduceLeDiff,F0b,a,r,s,e,m]
 refine dg (cmpInt_ok S.ok) ?_
 intro K g;replace S:=S.call g
 replace a:=g.load a;replace e:=g.load e;replace j:=g.load j;replace m:=g.load m;replace p:=g.load p
 clear g
 simp only [BS,LB,cls,Nat.reduceLT,Nat.reduceEqDiff,Nat.reduceAdd,Nat.reducePow,Nat.reduceDiv,Nat.reduceMod,Nat.reduceLeDiff]
 refine dw (bW (by exact Tryz.t33.1) (by exact Xs) (by decide) (by rfl)) S ?_;clear S;intro h v S z A;simp only [LC,aV,bJ,ah,Nat.reduceMul,Nat.reduceAdd,zM,zG,zY,z9]at S
 simp only [BS,LB,cls,Nat.reduceLT,Nat.reduceEqDiff,Nat.reduceAdd,Nat.reducePow,Nat.reduceDiv,Nat.reduceMod,Nat.reduceLeDiff]
 have D:ax h 1 (encI .i64) (.slice (some ⟨v,0,none⟩) 2 2) [ji (l.getD i default).key (l.getD k default).key,ji (l.getD i default).id (l.getD k default).id]:=.inr ⟨v,0,none,2,rfl,Xp _,S.lds (b:=v) (o:=0) (n:=2*1) m0 (lbt rfl)⟩
 refine dg (or2_ok S.ok D) ?_
 intro L g;replace S:=S.call g;clear g
 simp only [BS,LB,cls,ae,Nat.reduceLT,Nat.reduceEqDiff,Nat.reduceAdd,Nat.reducePow,Nat.reduceDiv,Nat.reduceMod,Nat.reduceLeDiff]
 refine⟨by simp only [bH,bN,a8,bP,bz,ne_eq,not_false_eq_true,bZ,cv,bV,bG,cy,dl,aQ,Nat.reduceLT,Nat.reduceEqDiff,reduceIte,Bool.and_true,ao,bS x,bS y,aX x,aX y],?_⟩
 have E:decide ((if ji (l.getD i default).key (l.getD k default).key=0 then ji (l.getD i default).id (l.getD k default).id else ji (l.getD i default).key (l.getD k default).key)<0)=decide (hlt (l.getD i default) (l.getD k default)):=by
  congr 1
  rw [eq_iff_iff]
  unfold ji hlt
  repeat' split
  all_goals omega
 exact⟨by rw [E],S.gr⟩
theorem qu{h0:Hp}(ok:h0.t.Sized h0.n){y g j cap:Nat}{n:Int}{l:List Hd}(R:dZ h0 y g j cap n l){i k:Nat}(u:i<l.length)(r:k<l.length):
 Ret zj 247 [ptrTo y,.int .i64 i,.int .i64 k] h0 fun v d=>Mo (fun c=>c=g\/c=j) h0 d/\dZ d y g j cap n (sw l i k):=by
 obtain⟨X,es,c,f,G,hm,C,MI,IF⟩:=R.ex
 have S:=St.init2 (M:=fun c=>c=g\/c=j) ok (o1:=.row X 1) (o2:=.map es c) G hm R.ne.2.2 (.inl rfl) (.inr rfl)
 have F: ¬(y=g\/y=j):=fun h=>h.elim R.ne.1 R.ne.2.1
 have H:=R.row.load1 (o:=0) rfl
 have r1:=R.row.load1 (o:=1) rfl
 have i2:=C.ld2 G u
 have k2:=C.ld2 G r
 have Y:=C.len
 have aa:=C.le
 refine ag (n:=62) (rs:=[]) rfl Tryz.e247 rfl rfl rfl (lbt rfl) ?_
 simp only [BS]
 refine aE (aK rfl) (q:=0) (ps:=[]) (by kernel_rfl) ?_
 simp only [BS,LB,cls,Nat.reduceLT,Nat.reduceEqDiff,Nat.reduceAdd,Nat.reducePow,Nat.reduceDiv,Nat.reduceMod,Nat.reduceLeDiff,FP,H,u,r,i2,k2]
 refine cU (S.store (i:=0) rfl Tryz.t344.2.1 (by intro x e;cases e) rfl rfl (by omega) ono) ?_
 clear S;rintro h ⟨S,s⟩;clear s
 have I:=C.set u (l.getD k default)
 simp only [LC,ah]at S
 have m:=S.old H F
 simp only [BS,LB,cls,Nat.reduceLT,Nat.reduceEqDiff,Nat.reduceAdd,Nat.reducePow,Nat.reduceDiv,Nat.reduceMod,Nat.reduceLeDiff,FP,r]
 generalize lay X (i*2) _=J at S I
 have ac:=I.len
 refine cU (S.store (i:=0) (off:=k*2) rfl Tryz.t344.2.1 (by intro x e;cases e) rfl rfl (by omega) ono) ?_
 clear S;rintro h ⟨S,s⟩;clear s
 have A:=I.set (i:=k) (by rw [zw];exact r) (l.getD i default)
 simp only [LC,ah]at S
 generalize lay J (k*2) _=t at S A
 rw [set_sw]at A
 clear m
 have m:=S.old H F
 have B:=S.old r1 F
 have K:i<(sw l i k).length:=by rw [fm];exact u
 have L:k<(sw l i k).length:=by rw [fm];exact r
 have Z:=A.ld0 (S.row m0) K
 have ak:=A.ld0 (S.row m0) L
 simp only [BS,LB,Nat.reduceAdd]
 refine aE (aK rfl) (q:=0) (ps:=[]) (by kernel_rfl) ?_
 simp only [BS,LB,cls,Nat.reduceLT,Nat.reduceEqDiff,Nat.reduceAdd,Nat.reducePow,Nat.reduceDiv,Nat.reduceMod,Nat.reduceLeDiff,FP,m,B,u,r,Z,ak]
 refine dn_v (P:=fun d v=> ∃n a p,v=.tuple #[(f ((sw l i k).getD i default).id).getD (.int .i64 0),.int .i64 (XA n)]/\St (fun c=>c=g\/c=j) h0 d [(g,.row t 1),(j,.map a p)] []/\ ∀w,∃b,eg n w a=some b/\cP b p (dy f ((sw l i k).getD i default).id (some w))) ?_ ?_
 . obtain⟨d,n,N,_,a,p,_,e4,O⟩:=S.mentI (i:=1) (x:=(((sw l i k).getD i default).id:Int)) rfl Tryz.t218.1 Tryz.t3.1 (z:=.int .i64 0) (by kernel_rfl) MI
   exact⟨d,_,N,n,a,p,rfl,e4,O⟩
 clear S Z ak m B
 rintro h v ⟨s1,ad,c1,rfl,S,Q⟩
 obtain⟨b,T,U⟩:=Q (.int .i64 i)
 simp only [BS,LB,cls,Nat.reduceLT,Nat.reduceEqDiff,Nat.reduceAdd,Nat.reducePow,Nat.reduceDiv,Nat.reduceMod,Nat.reduceLeDiff,Xt]
 refine cU (S.mstoreI (i:=1) rfl T) ?_
 clear S;rintro h ⟨s,S⟩;clear s
 simp only [LC]at S
 simp only [BS,LB,cls,Nat.reduceLT,Nat.reduceEqDiff,Nat.reduceAdd,Nat.reducePow,Nat.reduceDiv,Nat.reduceMod,Nat.reduceLeDiff]
 refine dn_v (P:=fun d v=> ∃n a p,v=.tuple #[(dy f ((sw l i k).getD i default).id (some (.int .i64 i)) ((sw l i k).getD k default).id).getD (.int .i64 0),.int .i64 (XA n)]/\St (fun c=>c=g\/c=j) h0 d [(g,.row t 1),(j,.map a p)] []/\ ∀w,∃b,eg n w a=some b/\cP b p (dy (dy f ((sw l i k).getD i default).id (some (.int .i64 i))) ((sw l i k).getD k default).id (some w))) ?_ ?_
 . obtain⟨d,n,N,_,a,p,_,e4,O⟩:=S.mentI (i:=1) (x:=(((sw l i k).getD k default).id:Int)) rfl Tryz.t218.1 Tryz.t3.1 (z:=.int .i64 0) (by kernel_rfl) U
   exact⟨d,_,N,n,a,p,rfl,e4,O⟩
 clear S
 rintro h v ⟨s2,af,c3,rfl,S,D⟩
 obtain⟨V,E,W⟩:=D (.int .i64 k)
 simp only [BS,LB,cls,Nat.reduceLT,Nat.reduceEqDiff,Nat.reduceAdd,Nat.reducePow,Nat.reduceDiv,Nat.reduceMod,Nat.reduceLeDiff,Xt]
 refine cU (S.mstoreI (i:=1) rfl E) ?_
 clear S;rintro h ⟨s,S⟩;clear s
 simp only [LC]at S
 simp only [BS,LB,Nat.reduceAdd]
 refine⟨S.fr,?_,⟨t,V,c3,_,S.row m0,(S.own _ m1).2,A,W,IF.swap u r⟩,R.ne⟩
 rw [fm]
 exact S.fr.has (o:=.row _ 1) R.row F
theorem up_ok{h0:Hp}(u:h0.t.Sized h0.n){b d e cap:Nat}{n:Int}{l:List Hd}(R:dZ h0 b d e cap n l){i:Nat}(r:i<l.length)(y:l.length<1000000)(U:oE l i):
 Ret zj 245 [ptrTo b,.int .i64 i] h0 fun v s=>Mo (fun c=>c=d\/c=e) h0 s/\ ∃l',dZ s b d e cap n l'/\l'.Perm l/\jP l':=by
 refine ag (n:=23) (rs:=[]) rfl Tryz.e245 rfl rfl rfl (lbt rfl) ?_
 simp only [BS]
 refine bg (fun(i:Nat) m h=>i<l.length/\Mo (fun c=>c=d\/c=e) h0 h/\ ∃l',dZ h b d e cap n l'/\l'.Perm l/\oE l' i/\m 0=ptrTo b/\m 1=.int .i64 i) (fun i=>i) ?_ i _ _ ?_
 . intro i w m h ⟨r,a,l',R,pm,U,r0,r1⟩
   have t:=pm.length_eq
   by_cases o:i=0
   . subst o
     simp only [BS,LB,Nat.reduceLT,Nat.reduceEqDiff,Int.reduceLT,zy,r1]
     exact⟨a,l',R,pm,up_done U (.inl rfl)⟩
   . have x:(0:Int)<(i:Int):=by omega
     have p:au .i64 ((i:Int)-1)=((i-1:Nat):Int):=by rw [wrap64]<;>omega
     have q:au .i64 (((i-1:Nat):Int).tdiv 4)=(((i-1)/4:Nat):Int):=by
      rw [Int.tdiv_eq_ediv_of_nonneg (by omega),show(((i-1:Nat):Int)/4)=(((i-1)/4:Nat):Int) by omega,wrap64]<;>omega
     simp only [BS,LB,Nat.reduceLT,Nat.reduceEqDiff,r0,r1,x,p,q,qv (n:=4) (by decide)]
     refine ar (vf a.ok R (i:=i) (k:=(i-1)/4) (by omega) (by omega)) ?_
     intro h g;replace R:=R.gr g;replace a:=a.trans (M':=NoM) g.fr (fun _ h=>h.elim);clear g
     by_cases j:hlt (l'.getD i default) (l'.getD ((i-1)/4) default)
     . simp only [BS,LB,Nat.reduceLT,Nat.reduceEqDiff,r0,r1,p,q,qv (n:=4) (by decide),j]
       refine step_ret (qu a.ok R (i:=i) (k:=(i-1)/4) (by omega) (by omega)) ?_
       rintro v h ⟨f,R⟩
       replace a:=a.trans f (fun _ h=>.inl h)
       simp only [BS,LB,Nat.reduceLT,Nat.reduceEqDiff,r1,p,q,qv (n:=4) (by decide)]
       exact w ((i-1)/4) _ _ (by omega) ⟨by omega,a,_,R,(qf l' (by omega) (by omega)).trans pm,up_step (by omega) U (by omega) j,by simp [ab,r0,ao],by simp [ab]⟩
     . simp only [BS,LB,Nat.reduceLT,Nat.reduceEqDiff,qv (n:=4) (by decide),j]
       exact⟨a,l',R,pm,up_done U (.inr (rY j))⟩
 . exact⟨r,Mo.refl u,l,R,.refl _,U,by simp [bu,ao],by simp [bu,dF]⟩
def Tryz.FJ:=aj t1<|aj t2<|aj t3<|aj t4<|aj t196<|aj t218<|aj t337<|aj Z6<|aj Z9<|t357
def Tryz.Ff:=aj t1<|aj t2<|aj t3<|aj t4<|aj t5<|aj t6<|aj Z2<|aj Z5<|aj t9<|aj t12<|aj Z12<|aj t95<|aj t218<|aj t250<|aj t337<|aj Z6<|t357
theorem St.monoM{M:Nat->Prop}{h0 h:Hp}{L:List (Nat×Ob)}{G:List GL}(S:St NoM h0 h L G):St M h0 h L G:=
 ⟨S.fr.mono (fun _ h=>h.elim),fun p a=>⟨(S.own p a).1.imp (fun h=>h) (fun h=>h.elim),(S.own p a).2⟩,fun p a=>⟨(S.gown p a).1,fun b c=>((S.gown p a).2 b c).imp (fun h=>h) (fun h=>h.elim)⟩,S.apart⟩
theorem below_ok{h0:Hp}(g:h0.t.Sized h0.n){f i:Nat}:Ret zj 266 [ptrTo f,.int .i64 i] h0 fun v e=>Gr h0 e/\ ∃a b,v=.func (.func 278) #[] #[ptrTo a,ptrTo b]/\h0.n<=a/\h0.n<=b/\e.load a 0 1=some [.int .i64 i]/\e.load b 0 1=some [ptrTo f]:=by
 have S:=Si g
 refine ag (n:=6) (rs:=[.tmp 4]) rfl Tryz.e266 rfl rfl rfl (lbt rfl) ?_
 simp only [BS,Nat.reduceLT]
 refine am (dp (by exact fO)) S ?_;clear S;intro h b S c
 simp only [BS,Nat.reduceLT,Nat.reduceEqDiff,if_false]
 refine am (dp (by exact bI)) S ?_;clear S;intro h a S d
 simp only [BS,LB,ae,Nat.reduceLT,Nat.reduceEqDiff]
 exact⟨S.gr,a,b,rfl,d,c,S.ld m0 rfl,S.ld m1 rfl⟩
theorem yk{h0:Hp}(b:h0.t.Sized h0.n){e f m i n cap:Nat}{r:Addr}(g:h0.load e 0 1=some [.int .i64 i])(t:h0.load f 0 1=some [ptrTo m])(B:h0.load m 0 1=some [.slice (some r) n cap])(K:n<1000000)(L:i<1000000):
 Iter zj 278 [] [ptrTo e,ptrTo f] h0 (fun c=>c=e\/c=f\/c=m) ((zV (min 4 (n-(4*i+1)))).map fun j=>[.int .i64 ((4*i+1+j:Nat):Int)]):=by
 refine qK fun C J Z Y h F s o=>?_
 refine enter (n:=28) (rs:=[]) rfl Tryz.e278 rfl rfl rfl (lbt rfl) ?_
 have d:=s.load b g (.inl rfl)
 have p:au .i64 (4*(i:Int))=((4*i:Nat):Int):=by rw [wrap64]<;>omega
 have D:au .i64 (((4*i:Nat):Int)+1)=((4*i+1:Nat):Int):=by rw [wrap64]<;>omega
 have u:au .i64 (((4*i:Nat):Int)+4)=((4*i+4:Nat):Int):=by rw [wrap64]<;>omega
 simp only [BS,LB,Nat.reduceLT,Nat.reduceEqDiff,FJ,d,p,D]
 refine bg (fun(j:Nat) k h=>j<=min 4 (n-(4*i+1))/\ ∃F,ItS h0 (fun c=>c=e\/c=f\/c=m) h F/\J j h F/\k 0=.func (.yield C) #[] #[]/\k 1=ptrTo e/\k 2=ptrTo f/\k 4=.int .i64 ((4*i+1+j:Nat):Int)) (fun j=>min 4 (n-(4*i+1))-j) ?_ 0 _ _ ?_
 . clear d
   intro j E k h ⟨hjm,F,s,o,r0,r1,r2,r4⟩
   have d:=s.load b g (.inl rfl)
   have y:=s.load b t (.inr (.inl rfl))
   have z:=s.load b B (.inr (.inr rfl))
   by_cases hlt:j<min 4 (n-(4*i+1))
   . have q:((4*i+1+j:Nat):Int)<=((4*i+4:Nat):Int):=by omega
     have x:4*i+1+j<n:=by omega
     have w:au .i64 (((4*i+1+j:Nat):Int)+1)=((4*i+1+(j+1):Nat):Int):=by rw [wrap64]<;>omega
     simp only [BS,LB,Nat.reduceLT,Nat.reduceEqDiff,FJ,r0,r1,r2,r4,d,y,z,p,u,q,x,aI]
     refine ef Y s o (i:=j) (by rw [zR,Xx hlt];rfl) ?_ ?_ ?_
     . intro A G a H _ _
       simp only [BS,LB,Nat.reduceLT,Nat.reduceEqDiff,r4,w]
       exact E (j+1) _ _ (by omega) ⟨by omega,G,H,a,by simp [ab,r0],by simp [ab,r1,ao],by simp [ab,r2,ao],by simp [ab]⟩
     . intro A a _
       simp only [BS,LB,Nat.reduceLT,Nat.reduceEqDiff]
       exact iQ rfl ⟨rfl,.inr (.inl ⟨_,rfl,a⟩)⟩
     . intro v A a
       simp only [BS]
       exact iL (dE ⟨rfl,.inr (.inr ⟨_,rfl,a⟩)⟩)
   . have I:j=min 4 (n-(4*i+1)):=by omega
     have l:YQ J Z (min 4 (n-(4*i+1))) (.ret (ae [])) none h:=⟨rfl,.inl ⟨_,F,rfl,by rw [<-I];exact o⟩⟩
     by_cases q:((4*i+1+j:Nat):Int)<=((4*i+4:Nat):Int)
     . have x: ¬4*i+1+j<n:=by omega
       simp only [BS,LB,Nat.reduceLT,Nat.reduceEqDiff,FJ,r1,r2,r4,d,y,z,p,u,q,x,aI]
       exact dS (dE ⟨rfl,_,rfl,by simpa using l⟩)
     . simp only [BS,LB,Nat.reduceLT,Nat.reduceEqDiff,FJ,r1,r4,d,p,u,q]
       exact dS (dE ⟨rfl,_,rfl,by simpa using l⟩)
 . exact⟨by omega,F,s,o,by simp [ab,cC],by simp [ab,cC,ao],by simp [ab,cC,ao],by simp [ab]⟩
theorem down_ok {h0:Hp} (ok:h0.t.Sized h0.n) {u z A cap:Nat} {n:Int} {l:List Hd} (R:dZ h0 u z A cap n l) {i:Nat} (C:i<l.length\/(l=[]/\i=0)) (hl:l.length<100000) (D:qJ l i):
 Ret zj 248 [ptrTo u,.int .i64 i] h0 fun v J=>Mo (fun c=>c=z\/c=A) h0 J/\ ∃l',dZ J u z A cap n l'/\l'.Perm l/\jP l':=by
 have lt:=R.lt ok
 have S:=Si ok
 have N: ∀{L:List (Nat×Ob)},(∀c∈keys L [],h0.n<=c)-> ∀c,c=u\/c=z\/c=A-> ¬c∈keys L []:=fun H c s hm=>by have:=lt c s;have:=H c hm;omega
 refine ag (n:=27) (rs:=[]) rfl Tryz.e248 rfl rfl rfl (lbt rfl) ?_
 simp only [BS,LB,Nat.reduceLT,Ff]
 refine am aF S ?_;clear S;intro h I S Q
 simp only [BS,LB,Nat.reduceLT,Nat.reduceEqDiff]
 refine aH (aC S (i:=0) rfl ?_ ?_ ?_ ono) ?_
 . exact(by simp only [Ff])
 . exact(by exact jV)
 . exact zt (lbt rfl)
 clear S;rintro h ⟨S,U⟩;clear U;simp only [LC,ah,lay,zJ,zK,Nat.reduceAdd]at S
 simp only [BS]
 have RR:=R.gr S.gr
 replace S:=S.monoM (M:=fun c=>c=z\/c=A)
 refine uj (fun(i:Nat) ρ d h=> ∃(r:List Nat) (l':List Hd),d=r.map qa/\St (fun c=>c=z\/c=A) h0 h (jm r++[(I,.row [.func (.func 265) #[ptrTo u] #[]] 1)]) []/\(∀c∈keys (jm r++[(I,Ob.row [.func (.func 265) #[ptrTo u] #[]] 1)]) [],h0.n<=c)/\
  dZ h u z A cap n l'/\l'.Perm l/\qJ l' i/\(i<l.length\/(l=[]/\i=0))/\ρ 0=ptrTo u/\ρ 1=.int .i64 i/\ρ 4=ptrTo I) (fun i=>l.length-i) ?_ i _ _ _ ?_
 . clear S RR R D C i
   intro i ih ρ d hS ⟨r,l',hd,S0,H,R,pm,D,C,r0,r1,r4⟩
   have a0:=pm.length_eq
   have ad:i<1000000:=by rcases C with C|⟨_,C⟩<;>omega
   have S:=S0.base
   have Rs:=R
   have n0:h0.n<=hS.n:=S0.fr.n
   simp only [BS,Nat.reduceLT,Ff,r1]
   refine am aF S ?_;clear S;intro h w S V
   simp only [BS,LB,Nat.reduceLT,Nat.reduceEqDiff]
   refine aH (aC S (i:=0) rfl ?_ ?_ ?_ ono) ?_
   . exact(by simp only [Ff])
   . exact(by exact bI)
   . exact zt (lbt rfl)
   clear S;rintro h ⟨S,U⟩;clear U;simp only [LC,ah,lay,zJ,zK,Nat.reduceAdd]at S
   simp only [BS,LB,Nat.reduceLT,Nat.reduceEqDiff,r0,r1]
   have gq:=S.fr.n
   have a1:=S.key_lt (b:=w) (by simp [keys])
   refine step_ret (below_ok S.ok) ?_;intro v h ⟨g,b1,b2,e,n1,n2,q1,q2⟩;replace S:=S.call g;clear g
   subst e
   simp only [BS]
   replace R:=R.mo1 S.fr (N H)
   have gh:=S.fr.n
   refine kZ S (g:=278) (a:=#[]) (b:=#[ptrTo b1,ptrTo b2]) (by simp [cy,ab,ao]) rfl rfl ?_
   intro h2 E O W a2 a3 g2
   have kb: ∀c∈keys (jm r++[(I,Ob.row [.func (.func 265) #[ptrTo u] #[]] 1)]) [],c<b1/\c<b2:=fun c s=>by have:=S0.key_lt s;have:=V;omega
   generalize hB:jm r++[(I,Ob.row [.func (.func 265) #[ptrTo u] #[]] 1)]=B at S W S0 H kb
   have mf:(I,Ob.row [.func (.func 265) #[ptrTo u] #[]] 1)∈B:=by rw [<-hB];exact zp _ m0
   obtain⟨X,hX,W⟩: ∃X:fG,X=_/\St (· ∈keys B []) hS h2 ((O,.loop X)::(E,.dfr)::(w,.row [.int .i64 (i:Nat)] 1)::B) []:=⟨_,rfl,W⟩
   have R2:=R.gr g2
   have ch: ∀j,j<min 4 (l'.length-(4*i+1))->4*i+1+j<l'.length/\(4*i+1+j-1)/4=i:=fun j hj=>⟨by omega,by omega⟩
   have hY:Yld zj O (fun j J F=> ∃m:Nat,St (· ∈keys B []) hS J ((O,.loop X)::(E,.dfr)::(w,.row [.int .i64 (m:Nat)] 1)::B) []/\F=keys ((O,.loop X)::(E,.dfr)::(w,.row [.int .i64 (m:Nat)] 1)::B) []/\
    (m<l'.length\/(l'=[]/\m=i))/\hle (l'.getD m default) (l'.getD i default)/\(∀q,q<j->hle (l'.getD m default) (l'.getD (4*i+1+q) default))/\(m=i\/(0<m/\(m-1)/4=i/\hlt (l'.getD m default) (l'.getD i default)))) (fun _ _=>False) ((zV (min 4 (l'.length-(4*i+1)))).map fun j=>[.int .i64 ((4*i+1+j:Nat):Int)]):=by
    refine⟨?_,?_,fun _ _ h=>h.elim,?_⟩
    . rintro j h F ⟨m,S,rfl,_⟩;exact⟨S.ok,fun b t=>S.key_lt t⟩
    . rintro j h F J ⟨m,S,rfl,k⟩ g;exact⟨m,S.call g,rfl,k⟩
    . rintro j x h F hx ⟨m,S,rfl,G,k2,Y,Z⟩
      have aa:j<min 4 (l'.length-(4*i+1)):=by
       have:=(List.getElem?_eq_some_iff.1 hx).1
       simpa using this
      rw [zR,Xx aa]at hx
      cases hx
      obtain⟨c1,c2⟩:=ch j aa
      replace G:=G.resolve_right (by intro e;rw [e.1]at c1;simp at c1)
      obtain⟨X0,af⟩: ∃x,x=X:=⟨_,rfl⟩
      subst hX
      refine lz (S.get m0) (by rw [Tryz.e248];rfl) rfl ?_
      have S1:=S
      replace S:=S.base
      simp only [BS,LB,Nat.reduceLT,Nat.reduceEqDiff]
      refine jB S (i:=0) rfl rfl rfl rfl rfl ?_
      clear S;intro h S
      simp only [LC]at S
      have lf:h.load I 0 1=some [.func (.func 265) #[ptrTo u] #[]]:=S.ld (o:=0) (.tail _ (.tail _ (.tail _ mf))) rfl
      simp only [BS,LB,Nat.reduceLT,Nat.reduceEqDiff,Ff,r4,lf,S.ld (b:=w) (o:=0) m2 rfl]
      have ai: ∀c∈keys ((O,Ob.loop X0)::(E,.dfr)::(w,.row [.int .i64 (m:Nat)] 1)::B) [],h0.n<=c:=fun c s=>(S1.key_own s).elim (fun h=>by omega) (fun h=>H c h)
      clear af
      have Rc:dZ h u z A cap n l':=(Rs.mo1 S1.fr (N H)).mo1 S.fr (N ai)
      refine ar (vf S.ok Rc c1 G) ?_
      intro h g;replace S:=S.call g;clear g Rc lf
      by_cases P:hlt (l'.getD (4*i+1+j) default) (l'.getD m default)
      . simp only [BS,LB,Nat.reduceLT,Nat.reduceEqDiff,P]
        refine aH (aC S (i:=2) rfl ?_ ?_ ?_ ono) ?_
        . exact(by simp only [Ff])
        . exact(by exact bI)
        . exact zt (lbt rfl)
        clear S;rintro h ⟨S,U⟩;clear U;simp only [LC,ah,lay,zJ,zK,Nat.reduceAdd]at S
        simp only [BS]
        refine gH S (i:=0) rfl ?_
        clear S;intro h S
        simp only [LC]at S
        refine .inl ⟨rfl,_,⟨4*i+1+j,S1.rebase S,rfl,.inl c1,iE (py P) k2,fun q hq=>?_,.inr ⟨by omega,c2,?_⟩⟩,S.fr,S.key_new⟩
        . by_cases e:q=j
          . subst e;exact ru _
          . exact iE (py P) (Y q (by omega))
        . rcases Z with rfl|⟨_,_,Z⟩
          . exact P
          . unfold hlt at*;omega
      . simp only [BS,LB,Nat.reduceLT,Nat.reduceEqDiff,P]
        refine gH S (i:=0) rfl ?_
        clear S;intro h S
        simp only [LC]at S
        refine .inl ⟨rfl,_,⟨m,S1.rebase S,rfl,.inl G,k2,fun q hq=>?_,Z⟩,S.fr,S.key_new⟩
        by_cases e:q=j
        . subst e;exact rY P
        . exact Y q (by omega)
   refine iN (wh (yk S.ok q1 q2 (R.row.load1 (o:=0) rfl) (by omega) ad) hY (h:=h2) (F:=keys ((O,.loop X)::(E,.dfr)::(w,.row [.int .i64 (i:Nat)] 1)::B) []) g2.fr (fun b t hlt=>?_) ⟨i,W,rfl,?_,ru _,fun q hq=>by omega,.inl rfl⟩) fun o rc J y=>lx y ?_
   . have e1:=W.key_own t
     rintro(rfl|rfl|rfl)
     . rcases List.mem_cons.1 t with e|t
       . omega
       . rcases List.mem_cons.1 t with e|t
         . omega
         . rcases List.mem_cons.1 t with e|t
           . simp only []at e;omega
           . have:=(kb _ t).1;omega
     . rcases List.mem_cons.1 t with e|t
       . omega
       . rcases List.mem_cons.1 t with e|t
         . omega
         . rcases List.mem_cons.1 t with e|t
           . simp only []at e;omega
           . have:=(kb _ t).2;omega
     . have:=lt b (.inl rfl)
       rcases e1 with e1|e1
       . omega
       . have:=H b e1;omega
   . rcases C with C|⟨C,_⟩
     . exact .inl (by omega)
     . right;rw [C]at pm;exact⟨pm.eq_nil,rfl⟩
   . rintro F ⟨m,T,rfl,G,k2,Y,Z⟩
     rw [Xn,List.length_range]at Y
     subst hX
     refine⟨_,T.get m0,Nat.zero_ne_one,?_⟩
     replace T:=T.dead
     show Run _ _ _ _ _ _ _ _
     have p:=T.ld (b:=w) (o:=0) m1 rfl
     have Rc:dZ _ u z A cap n l':=Rs.mo1 T.fr (N H)
     have km: ∀q,0<q->q<l'.length->(q-1)/4=i->hle (l'.getD m default) (l'.getD q default):=fun q q0 ql qe=>by
      have:=Y (q-(4*i+1)) (by omega)
      rwa [show 4*i+1+(q-(4*i+1))=q by omega]at this
     have T0:=S0.rebase T
     have ac: ∀c∈keys ((E,Ob.dfr)::(w,.row [.int .i64 (m:Nat)] 1)::B) [],h0.n<=c:=fun c s=>(T.key_own s).elim (fun h=>by omega) (fun h=>H c h)
     subst hd hB
     have T2:=T0.sub (L':=jm (E::r)++[(I,Ob.row [.func (.func 265) #[ptrTo u] #[]] 1)]) (G':=[]) (List.Sublist.cons_cons _ (List.sublist_cons_self _ _)) (List.Sublist.refl _)
     have K: ∀c∈keys (jm (E::r)++[(I,Ob.row [.func (.func 265) #[ptrTo u] #[]] 1)]) [],h0.n<=c:=fun c s=>ac c (by simp only [keys,Xi,Xo,jm,zz,List.cons_append,zN]at s⊢;rcases s with h|h;exact .inl h;exact .inr (.inr h))
     by_cases e:m=i
     . subst e
       simp only [BS,LB,Nat.reduceLT,Nat.reduceEqDiff,Ff,r1,p]
       have T3:=T2.base
       refine gL (kc (E::r) _ T3 fun J T4=>⟨rfl,_,rfl,?_⟩)
       refine⟨(T2.fr.trans T4.fr fun c s=>(T2.key_own s).symm),l',Rc.mo1 T4.fr (N K),pm,dn_done D km⟩
     . have e': ¬((m:Int)=(i:Int)):=by omega
       obtain⟨b0,be,ak⟩:=Z.resolve_left e
       replace G:=G.resolve_right (fun h=>e h.2)
       simp only [BS,LB,Nat.reduceLT,Nat.reduceEqDiff,Ff,r0,r1,p,e']
       refine step_ret (qu T2.ok Rc (i:=i) (k:=m) (by omega) G) ?_
       rintro v h ⟨f,Rn⟩
       have al:=N K
       have T3:=T2.step f (fun c s=>.inl s) (fun c s hM=>al c (.inr hM) s)
       have f2:Mo (fun c=>c=z\/c=A) _ h:=f
       have an:h.load w 0 1=some [.int .i64 (m:Nat)]:=by
        have a4:h0.n<=w:=ac w (.tail _ m0)
        have:=f.get w (bw f.ok0 p) (fun hM=>by have:=lt w (.inr hM);omega)
        unfold Hp.load at p⊢
        rw [this];exact p
       simp only [BS,LB,Nat.reduceLT,Nat.reduceEqDiff,Ff,an]
       exact ih m _ _ _ (by omega) ⟨E::r,_,rfl,T3,K,Rn,(qf l' (by omega) G).trans pm,dn_step D b0 G be ak km,.inl (by omega),by simp [ab,r0,ao],by simp [ab],by simp [ab,r4,ao]⟩
 . exact⟨[],l,rfl,S,fun c s=>by simp [keys,jm]at s;subst s;exact Q,RR,.refl _,D,C,by simp [ab,bu,ao],by simp [ab,bu,dF],by simp [ab,ao]⟩
end Go.Ab
end
section
namespace Go.Ab
theorem iC.push{f:Int->Option Value}{l:List Hd}(h:iC f l){x:Hd}(g:x.id∉l.map Hd.id):iC (dy f x.id (some (.int .i64 l.length))) (l++[x]):=by
 refine⟨fun i b=>?_,fun y v c=>?_⟩
 . unfold dy
   simp at b
   by_cases e:i=l.length
   . subst e
     have:(l++[x]).getD l.length default=x:=by simp [zk]
     rw [this,if_pos rfl]
   . rw [iX l _ (by omega),if_neg ?_]
     . exact h.1 i (by omega)
     . intro d
       apply g
       have a:i<l.length:=by omega
       refine List.mem_map.2 ⟨l.getD i default,?_,by omega⟩
       rw [zk,zn a]
       exact zW a
 . unfold dy at c
   by_cases e:y=x.id
   . refine⟨l.length,by simp,?_⟩
     have:(l++[x]).getD l.length default=x:=by simp [zk]
     rw [this];exact e
   . rw [if_neg e]at c
     obtain⟨i,b,d⟩:=h.2 y v c
     exact⟨i,by simp;omega,by rw [iX l _ b];exact d⟩
theorem iC.cut{f:Int->Option Value}{l:List Hd}(h:iC f l){m:Nat}(g:l.length=m+1):iC (dy f (l.getD m default).id none) (l.take m):=by
 refine⟨fun i b=>?_,fun y v a=>?_⟩
 . rw [zI]at b
   rw [getD_take l (by omega)]
   unfold dy
   rw [if_neg ?_]
   . exact h.1 i (by omega)
   . intro e
     have:=h.inj (i:=i) (j:=m) (by omega) (by omega) (by omega)
     omega
 . unfold dy at a
   by_cases e:y=(l.getD m default).id
   . rw [if_pos e]at a;cases a
   . rw [if_neg e]at a
     obtain⟨i,b,c⟩:=h.2 y v a
     have:i≠m:=fun d=>by subst d;exact e c
     exact⟨i,by rw [zI];omega,by rw [getD_take l (by omega)];exact c⟩
theorem iC.setKey{f:Int->Option Value}{l:List Hd}(h:iC f l){i:Nat}(k:Int):iC f (l.set i ⟨(l.getD i default).id,k⟩):=by
 have e: ∀j,((l.set i ⟨(l.getD i default).id,k⟩).getD j default).id=(l.getD j default).id:=fun j=>by
  rw [iH]
  split
  . rename_i e;rw [e.1]
  . rfl
 refine⟨fun j a=>?_,fun y v b=>?_⟩
 . rw [e];exact h.1 j (by rwa [zw]at a)
 . obtain⟨j,a,c⟩:=h.2 y v b
   exact⟨j,by rwa [zw],by rw [e];exact c⟩
theorem idxF_nil:iC (fun _=>none) []:=⟨fun i a=>by simp at a,fun x v h=>by cases h⟩
theorem c5.take{cs:List Value}{cap:Nat}{l:List Hd}(c:c5 cs cap l)(m:Nat):c5 cs cap (l.take m):=
 ⟨c.len,z7 (by rw [zI];omega) c.le,fun i a=>by
  rw [zI]at a
  rw [getD_take l (by omega)]
  exact c.at0 i (by omega)⟩
theorem c5.push{cs a:List Value}{cap cap':Nat}{l:List Hd}(c:c5 cs cap l){x:Hd}(d:a.length=cap'*2)(h:l.length<cap')(b: ∀j,j<l.length*2->a[j]? =cs[j]?)(f:a[l.length*2]? =some (.int .i64 x.id)/\a[l.length*2+1]? =some (.int .i64 x.key)):c5 a cap' (l++[x]):=by
 refine⟨d,by simp;omega,fun i g=>?_⟩
 simp at g
 by_cases e:i=l.length
 . subst e
   have:(l++[x]).getD l.length default=x:=by simp [zk]
   rw [this];exact f
 . rw [iX l _ (by omega),b _ (by omega),b _ (by omega)]
   exact c.at0 i (by omega)
theorem vS{E:Env}{t e:TypeId}{b k len cap n:Nat}{kd:IntKind}(c:E.und t=some (.slice e))(d:E.sz e=some k)(f:n<=cap):d8 E t (.slice (some ⟨b,0,some k⟩) len cap) none (some (.int kd (n:Int))) none=some (.slice (some ⟨b,0,some k⟩) n cap):=by
 have a: ∀n:Nat,fo (n:Int)=some n:=fun n=>rfl
 simp only [d8,c,dV,dU,a,zx f,cond_true,d,zC,cond_false,Nat.sub_zero,zM,Nat.add_zero,Xk]
 cases zX cap 0<;>rfl
section
variable{M:Nat->Prop}{h0 h:Hp}{L:List (Nat×Ob)}{G:List GL}{E:Env}{t tx e:TypeId}{by_:Nat}{zs:List Value}
theorem St.appH{g cap:Nat}{cs:List Value}{l:List Hd}(S:St M h0 h ((g,.row cs 1)::L) G)(C:c5 cs cap l)(B:E.und t=some (.slice e))(N:dD E e by_ 2 zs)(O:0<by_)(P:by_<=100)(r:dh E tx=some false){x:Hd}{D:Value}(d:aL h 2 D=some (1,iW x))(W:l.length<1000000){ts:List TypeId}:
 ∃F w,cV E h (t::tx::ts) (.slice (some ⟨g,0,some 2⟩) l.length cap) D=some (F,w)/\ ∃b cap' k,w=.slice (some ⟨b,0,some 2⟩) (l.length+1) cap'/\St M h0 F ((b,.row k 1)::L) G/\c5 k cap' (l++[x])/\(b=g\/h.n<=b):=by
 obtain⟨⟨i,H,rfl,a⟩,Q,u⟩:=N
 have I:Row h g cs 1:=S.row m0
 have m:=C.len
 by_cases R:l.length+1<=cap
 . obtain⟨y,J,U⟩:=I.store S.ok ono (o:=l.length*2) (vs:=iW x) (by rw [iD];omega) rfl
   refine⟨h.put g y,_,?_,g,cap,_,rfl,S.put (i:=0) rfl U,?_,.inl rfl⟩
   . simp only [cV,r,iR,B,H,a,d]
     unfold d9
     rw [zx R]
     simp only [cond_true,iW,a,zG]
     unfold iW at J
     rw [J]
   . refine C.push (by rw [lV (by rw [iD];omega)];exact m) (by omega) (fun j V=>?_) ⟨?_,?_⟩
     . rw [ic (by rw [iD];omega),if_neg (by omega)]
     . rw [ic (by rw [iD];omega),if_pos ⟨Xp _,by rw [iD];omega⟩,Nat.sub_self];rfl
     . rw [ic (by rw [iD];omega),if_pos ⟨by omega,by rw [iD];omega⟩,Nat.add_sub_cancel_left];rfl
 . have K:cap=l.length:=by have:=C.le;omega
   obtain⟨s,el,p,f,v⟩:=I
   have z:i6 s cs.length 0 (l.length*2) (iW x)=some (s.pushAll cs.length (iW x),cs.length+2):=by
    unfold i6
    rw [show l.length*2=cs.length by omega,Xk,Xk];rfl
   have T:=S.dead.new (x:=.cells (s.pushAll cs.length (iW x)) (cs.length+2) e 1) (o:=.row (cs++iW x) 1) (by
    refine⟨s.pushAll cs.length (iW x),e,?_,?_,fun n=>?_⟩
    . rw [Hp.get_new _ _ S.dead.ok,if_pos rfl,zP];rfl
    . rw [zP];exact Tr.sized_pushAll _ f
    . rw [Tr.get_pushAll _ _ _ f,Xf]
      split
      . exact v n
      . rfl)
   refine⟨_,.slice (some ⟨h.n,0,some 2⟩) (l.length+1) (l.length+1),?_,h.n,l.length+1,_,rfl,T,?_,.inr (Xp _)⟩
   . simp only [cV,r,iR,B,H,a,d]
     unfold d9
     have q:Xg (l.length+1) cap=false:=by
      cases r:Xg (l.length+1) cap with
      |false=>rfl
      |true=>exact absurd (lbt r) (by omega)
     rw [q]
     simp only [cond_false]
     have c:(Xg ((l.length+1)*(i.bytes+1)) 70368744177664&&Nat.blt 0 i.bytes)=true:=by
      have:(l.length+1)*(i.bytes+1)<=1000000*101:=Nat.mul_le_mul (by omega) (by omega)
      rw [zx (by omega)]
      simp only [Bool.true_and]
      rw [Xu];exact O
     have A:zX zs.length i.size=true:=by rw [u,a];rfl
     rw [c,Q]
     simp only [cond_true,A]
     unfold mg
     simp only [p,a,z]
     rfl
   . refine C.push (by rw [zP,iD];omega) (by omega) (fun j V=>?_) ⟨?_,?_⟩
     . rw [List.getElem?_append_left (by omega)]
     . rw [Xj (by omega),show l.length*2-cs.length=0 by omega];rfl
     . rw [Xj (by omega),show l.length*2+1-cs.length=1 by omega];rfl
theorem St.appH0(S:St M h0 h L G)(p:E.und t=some (.slice e))(q:dD E e by_ 2 zs)(r:0<by_)(s:by_<=100)(u:dh E tx=some false){x:Hd}{m:Value}(d:aL h 2 m=some (1,iW x)){ts:List TypeId}:
 ∃n w,cV E h (t::tx::ts) (.slice none 0 0) m=some (n,w)/\ ∃b cap' f,w=.slice (some ⟨b,0,some 2⟩) 1 cap'/\St M h0 n ((b,.row f 1)::L) G/\c5 f cap' [x]/\h.n<=b:=by
 obtain⟨⟨i,j,rfl,c⟩,v,k⟩:=q
 have T:=S.new (x:=.cells (Tr.ofList (iW x)) 2 e 1) (o:=.row (iW x) 1) (my S.ok (iW x) e 1)
 refine⟨_,.slice (some ⟨h.n,0,some 2⟩) 1 1,?_,h.n,1,_,rfl,T,⟨rfl,by simp,fun i j=>?_⟩,Xp _⟩
 . simp only [cV,u,iR,p,j,c,d]
   unfold d9
   have g:Xg (0+1) 0=false:=rfl
   rw [g]
   simp only [cond_false]
   have a:(Xg ((0+1)*(i.bytes+1)) 70368744177664&&Nat.blt 0 i.bytes)=true:=by
    rw [zx (by omega)]
    simp only [Bool.true_and]
    rw [Xu];exact r
   have l:zX zs.length i.size=true:=by rw [k,c];rfl
   rw [a,v]
   simp only [cond_true,l]
   unfold mg
   rw [show zX 0 0=true from rfl,c]
   rfl
 . have:i=0:=by simpa using j
   subst this;exact⟨rfl,rfl⟩
theorem St.rowS{i b d n cap c:Nat}{N:Int}{cs:List Value}{g:List (Value×Value×Nat)}{l:List Hd}{f:Int->Option Value}(S:St M h0 h [(b,.row cs 1),(i,.row [.slice (some ⟨b,0,some 2⟩) n cap,.map (some d),.int .i64 N] 1),(d,.map g c)] [])(C:c5 cs cap l)(j:n=l.length)(k:cP g c f)(m:iC f l):dZ h i b d cap N l:=by
 subst j
 have a:=S.apart
 simp only [keys,zz,XB,Xi,Xo,zO,zN,Xa,or_false,not_or]at a
 exact⟨S.row m1,⟨cs,g,c,f,S.row m0,(S.own _ m2).2,C,k,m⟩,fun e=>a.1.1 e.symm,a.2.1,a.1.2⟩
end
theorem mj{ρ:Operand->Value}{b:Bool}{t:TypeId}{a v:Operand}{h c:Hp}:bM ρ b (.store t a v) h c=(match ρ a with| .pointer (some a)=>some (.blk a.block)|_=>none):=by
 simp only [bM,cQ,g8,dI,touch,cond_false]
 cases ρ a<;>first|rfl|(rename_i x;cases x<;>rfl)
theorem note_len{ρ:Operand->Value}{b:Bool}{x:Operand}{ts:Array TypeId}{h c:Hp}:bM ρ b (.call ⟨.builtin .len,#[x],ts⟩) h c=(match ρ x with| .map (some r)=>some (.blk r)| .slice (some a) _ _=>some (.blk a.block)|_=>none):=by
 simp only [bM,cQ,g8,dI,touch,cond_false]
 cases ρ x<;>first|rfl|(rename_i x;cases x<;>rfl)|(rename_i x _ _;cases x<;>rfl)
theorem dn_del{E:Env}{cx:Cx}{Q:dP}{a:List Oper}{q:Nat}{ps:List (Nat×Nat)}{o:Oper}{os:List Oper}{i:Nat}{k:List Fr}{l:Loc}{c:Hp->List (Nat×Tch)}{h:Hp}{t:TypeId}{m key:Value}{P:Hp->Prop}(d: ∃b,jN E h t m key=some b/\P b)
 (f: ∀b,P b->Run E (lim E) cx Q (.opsD a q ps os (i+1) (c b)::k) .normal (l.put o.dst (.tuple #[])) b):DN E cx Q a q ps o os i k l c (delR E h t m key):=by
 obtain⟨b,e,g⟩:=d
 unfold delR
 rw [e]
 exact f b g
structure cF(h:Hp)(F:List Nat)(p:Value)(N:Nat)(K:Nat->Option Int):Prop where
 ex: ∃bh bm l,p=ptrTo bh/\jP l/\fi l K/\(∀x∈l,x.id<N)/\
  ((l=[]/\F=[bh,bm]/\bh≠bm/\Row h bh [.slice none 0 0,.map (some bm),.int .i64 N] 1/\ ∃es c,h.get bm=some (.map es c)/\cP es c (fun _=>none))\/ ∃bl cap,F=[bh,bl,bm]/\dZ h bh bl bm cap N l)
theorem cF.mo{M:Nat->Prop}{h i:Hp}{F:List Nat}{p:Value}{N:Nat}{K:Nat->Option Int}(a:cF h F p N K)(g:Mo M h i)(d: ∀b∈F,¬M b):cF i F p N K:=by
 obtain⟨m,n,l,e,q,r,s,t⟩:=a.ex
 refine⟨m,n,l,e,q,r,s,?_⟩
 rcases t with⟨u,rfl,v,w,j,c,x,y⟩|⟨z,f,rfl,k⟩
 . exact .inl ⟨u,rfl,v,g.has (o:=.row _ 1) w (d _ (by simp)),j,c,g.has (o:=.map j c) x (d _ (by simp)),y⟩
 . exact .inr ⟨z,f,rfl,k.mo g (d _ (by simp)) (d _ (by simp)) (d _ (by simp))⟩
theorem cF.gr{h b:Hp}{F:List Nat}{p:Value}{N:Nat}{K:Nat->Option Int}(a:cF h F p N K)(g:Gr h b):cF b F p N K:=a.mo (M:=NoM) g.fr (fun _ _ h=>h)
theorem cF.lt{h:Hp}(f:h.t.Sized h.n){F:List Nat}{p:Value}{N:Nat}{K:Nat->Option Int}(a:cF h F p N K): ∀b∈F,b<h.n:=by
 obtain⟨n,o,l,e,q,r,s,g⟩:=a.ex
 rcases g with⟨t,rfl,u,i,v,c,j,w⟩|⟨x,m,rfl,k⟩
 . intro b d
   simp at d
   rcases d with rfl|rfl
   . exact i.lt f
   . exact eX f j
 . intro b d
   simp at d
   exact k.lt f b d
theorem rF{l:List Hd}{K:Nat->Option Int}(h:fi l K){N:Nat}(a: ∀x∈l,x.id<N):l.length<=N:=by
 have:=mH N (l.map Hd.id) h.1 (fun x b=>by obtain⟨y,c,rfl⟩:=List.mem_map.1 b;exact a y c)
 simpa using this
end Go.Ab

end
section
namespace Go.Ab
open Go.Proofs
set_option maxRecDepth 10000
def Tryz.F0L:=aj t1<|aj t3<|aj t218<|aj t275<|aj t337<|aj Z6<|aj Z8<|Z9
def Tryz.F0M:=aj t1<|aj t2<|aj t3<|aj t4<|aj t218<|aj t275<|aj t337<|aj Z6<|aj Z8<|Z9
def Tryz.F0c:=aj t1<|aj t2<|aj t3<|aj t4<|aj t5<|aj t6<|aj t218<|aj t275<|aj t337<|aj Z6<|aj Z8<|Z9
def Tryz.F6:=aj t1<|aj t2<|aj t3<|aj t4<|aj t5<|aj t6<|aj Z2<|aj Z5<|aj t9<|aj t45<|aj t218<|aj t275<|aj t337<|aj Z6<|aj Z8<|Z9
def Tryz.F0d:=aj t1<|aj t2<|aj t3<|aj t4<|aj t5<|aj t6<|aj Z2<|aj Z5<|aj t9<|aj t10<|aj t11<|aj t12<|aj t45<|aj t218<|aj t275<|aj t337<|aj Z6<|aj Z8<|Z9
theorem y7{h0:Hp}(l:h0.t.Sized h0.n){N:Nat}:Ret zj 196 [.int .i64 N] h0 fun v f=>Gr h0 f/\ ∃F,cF f F v N (fun _=>none)/\ ∀b∈F,h0.n<=b:=by
 have S:=Si l
 have m:max (N:Int) 0=(N:Int):=by omega
 refine ag (n:=9) (rs:=[.tmp 2]) rfl Tryz.e196 rfl rfl rfl (lbt rfl) ?_
 simp only [BS]
 refine am qn S ?_;clear S;intro h g S a
 simp only [BS,LB,Nat.reduceLT,Nat.reduceEqDiff,Nat.reduceAdd,Nat.reduceLeDiff,F0L,m]
 refine am (bE (by intro x e;cases e)) S ?_;clear S;intro h b S d;simp only [ah]at S
 simp only [BS,LB,ae,Nat.reduceLT,Nat.reduceEqDiff]
 have i:=S.apart
 simp only [keys,zz,XB,Xi,Xo,zO,zN,Xa,or_false]at i
 refine⟨S.gr,[b,g],⟨b,g,[],rfl,fun j _ o=>(by simp at o),cont_nil,fun x p=>(by cases p),.inl ⟨rfl,rfl,i.1,S.row m0,[],0,(S.own _ m1).2,vw⟩⟩,fun c k=>?_⟩
 simp at k
 rcases k with rfl|rfl
 . exact d
 . exact a
section
variable{h0:Hp}{F:List Nat}{p:Value}{N:Nat}{K:Nat->Option Int}
theorem sk(f:h0.t.Sized h0.n)(H:cF h0 F p N K): ∃m:Nat,aW zj 246 [p] h0 (.int .i64 m)/\(m=0↔ ∀v,K v=none):=by
 obtain⟨g,q,l,rfl,r,d,s,h⟩:=H.ex
 refine⟨l.length,?_,?_⟩
 . have S:=Si f
   obtain⟨a,n,c,m1,m2,b,i⟩: ∃a n c m1 m2,Row h0 g [.slice a n c,m1,m2] 1/\n=l.length:=by
    rcases h with⟨rfl,_,_,b,_⟩|⟨t,j,_,b⟩
    . exact⟨_,_,_,_,_,b,rfl⟩
    . exact⟨_,_,_,_,_,b.row,rfl⟩
   subst i
   have k:=b.load1 (o:=0) rfl
   refine ag (n:=11) (rs:=[.tmp 2]) rfl Tryz.e246 rfl rfl rfl (lbt rfl) ?_
   simp only [BS,LB,ae,Nat.reduceLT,Nat.reduceEqDiff,F0M,k]
   exact S.gr
 . constructor
   . intro e
     rw [List.length_eq_zero_iff.1 e]at d
     exact d.nil
   . intro e
     cases l with
     |nil=>rfl
     | cons x l=>
       have:=(d.2 x.id x.key).2 (by simp)
       rw [e]at this;cases this
theorem yi (y:h0.t.Sized h0.n) (H:cF h0 F p N K) {v:Nat}:aW zj 252 [p,.int .i64 v] h0 (.tuple #[.int .i64 ((K v).getD 0),.bool (K v).isSome]):=by
 have S:=Si y
 obtain⟨m,a,A⟩:=sk y H
 obtain⟨O,P,l,rfl,Q,r,T,I⟩:=H.ex
 by_cases b:m=0
 . subst b
   have e:=A.1 rfl v
   rw [e]
   refine ag (n:=32) (rs:=[.tmp 4,.tmp 5]) rfl Tryz.e252 rfl rfl rfl (lbt rfl) ?_
   simp only [BS,LB,Nat.reduceLT,Nat.reduceEqDiff]
   refine ar (a) ?_;intro h g;replace S:=S.call g;clear g
   simp only [BS,LB,ae,Nat.reduceLT,Nat.reduceEqDiff,zy]
   exact⟨rfl,S.gr⟩
 . have d: ¬((m:Int)=0):=by omega
   rcases I with⟨rfl,_⟩|⟨U,J,_,R⟩
   . exact absurd (A.2 r.nil) b
   . refine ag (n:=32) (rs:=[.tmp 4,.tmp 5]) rfl Tryz.e252 rfl rfl rfl (lbt rfl) ?_
     simp only [BS,LB,Nat.reduceLT,Nat.reduceEqDiff]
     refine ar (a) ?_;intro h g;replace S:=S.call g;replace R:=R.gr g;clear g
     obtain⟨V,W,c,f,s,t,C,L,B⟩:=R.ex
     have M:=R.row.load1 (o:=0) rfl
     have D:=R.row.load1 (o:=1) rfl
     have q:=ow (x:=(v:Int)) Tryz.t218.1 Tryz.t3.1 (z:=.int .i64 0) (by kernel_rfl) t L
     cases E:K v with
     | none=>
       have u:f v=none:=by
        cases hf:f v with
        |none=>rfl
        | some w=>
          obtain⟨i,j,e⟩:=B.2 v w hf
          have:=r.at j
          rw [show(l.getD i default).id=v by omega,E]at this;cases this
       rw [u]at q
       simp only [BS,LB,ae,Nat.reduceLT,Nat.reduceEqDiff,F0c,d,D,q,Xb,zC]
       exact S.gr
     | some k=>
       obtain⟨i,j,e⟩:=r.idx E
       have u:f v=some (.int .i64 i):=by have:=B.1 i j;rwa [e]at this
       rw [u]at q
       have G:=C.ld1 s j
       rw [e]at G
       simp only [BS,LB,ae,Nat.reduceLT,Nat.reduceEqDiff,F0c,d,M,D,q,Xc,j,G]
       exact S.gr
theorem xy(ok:h0.t.Sized h0.n)(H:cF h0 F p N K){v:Nat}(hv:v<N)(hN:N<=1000)(P:K v=none){k:Int}:
 Ret zj 200 [p,.int .i64 v,.int .i64 k] h0 fun r h'=>Mo (· ∈F) h0 h'/\ ∃F',cF h' F' p N (dL K v (some k))/\ ∀b∈F',b∈F\/h0.n<=b:=by
 obtain⟨a,s,l,rfl,ho,m,hlt,D⟩:=H.ex
 have ac:=rF m hlt
 have c1: ¬((v:Int)<0):=by omega
 have c2: ¬((N:Int)<=(v:Int)):=by omega
 have hn:=m.free P
 rcases D with⟨rfl,rfl,T,hr,U,c,g,E⟩|⟨G,u,rfl,R⟩
 . have S:=St.init2 (M:=(· ∈[a,s])) ok (o1:=.row _ 1) (o2:=.map U c) hr g T (by simp) (by simp)
   have Q:=ow (x:=(v:Int)) Tryz.t218.1 Tryz.t3.1 (z:=.int .i64 0) (by kernel_rfl) g E
   refine ag (n:=71) (rs:=[.tmp 6]) rfl Tryz.e200 rfl rfl rfl (lbt rfl) ?_
   simp only [BS,LB,Nat.reduceLT,Nat.reduceEqDiff,F6,Q,c1,c2,Xb,zC,S.ld (b:=a) (o:=1) m0 rfl,S.ld (b:=a) (o:=2) m0 rfl]
   refine aE (aK rfl) (q:=0) (ps:=[]) (by kernel_rfl) ?_
   simp only [BS,LB,cls,Nat.reduceLT,Nat.reduceEqDiff,Nat.reduceAdd,Nat.reducePow,Nat.reduceDiv,Nat.reduceMod,Nat.reduceLeDiff,zy,F6,S.ld (b:=a) (o:=0) m0 rfl,S.ld (b:=a) (o:=1) m0 rfl]
   refine cU (S.mputI (i:=1) rfl Tryz.t218.1 Tryz.t3.1 E _) ?_
   clear S;rintro h ⟨_,V,c',y,S⟩
   simp only [LC]at S
   simp only [BS,LB,Nat.reduceLT,Nat.reduceEqDiff,Nat.reduceAdd,F6,S.ld (b:=a) (o:=0) m0 rfl,S.ld (b:=a) (o:=1) m0 rfl]
   refine am (bW (by exact Tryz.t337.1) (by exact Xv) (by decide) (by rfl)) S ?_;clear S;intro h I S J;simp only [LC,aV,bJ,ah,Nat.reduceMul,Nat.reduceAdd,zM,zG,zY,z9]at S
   simp only [BS,LB,Nat.reduceLT,Nat.reduceEqDiff,S.ld (b:=a) (o:=0) m1 rfl,S.ld (b:=a) (o:=1) m1 rfl]
   have j:aL h 2 (.slice (some ⟨I,0,none⟩) 1 1)=some (1,iW ⟨v,k⟩):=by simp only [aL];rw [S.lds (b:=I) (o:=0) (n:=1*2) m0 (lbt rfl)];rfl
   replace S:=S.drop1
   refine dQ (S.appH0 Tryz.t337.1 Xv (by decide) (by decide) Tryz.t337.2.2.2.2.2 j) ?_
   clear S j;rintro h w ⟨G,u,cs,rfl,S,C,W⟩
   simp only [BS,LB,Nat.reduceLT,Nat.reduceEqDiff,F6]
   refine aH (aC S (i:=1) rfl ?_ ?_ ?_ ono) ?_
   . exact(by simp only [F6])
   . exact(by exact bD)
   . exact zt (lbt rfl)
   clear S;rintro h ⟨S,X⟩;clear X;simp only [LC,ah,lay,zJ,zK,Nat.reduceAdd]at S
   simp only [BS]
   refine aE (aK rfl) (q:=0) (ps:=[]) (by kernel_rfl) ?_
   simp only [BS,LB,cls,Nat.reduceLT,Nat.reduceEqDiff,Nat.reduceAdd,Nat.reducePow,Nat.reduceDiv,Nat.reduceMod,Nat.reduceLeDiff,Int.reduceSub,zy,F6,S.ld (b:=a) (o:=0) m1 rfl,S.ld (b:=a) (o:=1) m1 rfl]
   have R:dZ h a G s u N ([]++[⟨v,k⟩]):=S.rowS C rfl y (idxF_nil.push hn)
   have Y:au .i64 0=((0:Nat):Int):=rfl
   rw [Y]
   refine cM (up_ok S.ok R (i:=0) (by simp) (by simp) (uB ho ⟨v,k⟩)) ?_
   have d:=(S.own _ m0).1
   rintro r h ⟨f,Z,R',L,A⟩
   simp only [BS,LB,Nat.reduceLT,Nat.reduceAdd,zy]
   refine⟨S.fr.trans f (fun c m=>?_),[a,G,s],⟨a,s,Z,rfl,A,(m.push P k).perm L,fun x D=>?_,.inr ⟨G,u,rfl,R'⟩⟩,fun b O=>?_⟩
   . rcases m with rfl|rfl
     . exact d.symm
     . exact .inl (by simp)
   . have:=L.mem_iff.1 D
     simp at this;subst this;exact hv
   . simp at O
     rcases O with rfl|rfl|rfl
     . exact .inl (by simp)
     . exact d.symm
     . exact .inl (by simp)
 . obtain⟨cs,U,c,f,aa,g,C,E,IF⟩:=R.ex
   have S:=St.init3 (M:=(· ∈[a,G,s])) ok (o1:=.row cs 1) (o2:=.row _ 1) (o3:=.map U c) aa R.row g R.ne.1.symm R.ne.2.2 R.ne.2.1 (by simp) (by simp) (by simp)
   have Q:=ow (x:=(v:Int)) Tryz.t218.1 Tryz.t3.1 (z:=.int .i64 0) (by kernel_rfl) g E
   have fv:f v=none:=by
    cases hf:f v with
    |none=>rfl
    | some w=>
      obtain⟨i,hi,e⟩:=IF.2 v w hf
      have:=m.at hi
      rw [show(l.getD i default).id=v by omega,P]at this;cases this
   rw [fv]at Q
   refine ag (n:=71) (rs:=[.tmp 6]) rfl Tryz.e200 rfl rfl rfl (lbt rfl) ?_
   simp only [BS,LB,Nat.reduceLT,Nat.reduceEqDiff,F6,Q,c1,c2,Xb,zC,S.ld (b:=a) (o:=1) m1 rfl,S.ld (b:=a) (o:=2) m1 rfl]
   refine aE (aK rfl) (q:=0) (ps:=[]) (by kernel_rfl) ?_
   simp only [BS,LB,cls,Nat.reduceLT,Nat.reduceEqDiff,Nat.reduceAdd,Nat.reducePow,Nat.reduceDiv,Nat.reduceMod,Nat.reduceLeDiff,F6,S.ld (b:=a) (o:=0) m1 rfl,S.ld (b:=a) (o:=1) m1 rfl]
   refine cU (S.mputI (i:=2) rfl Tryz.t218.1 Tryz.t3.1 E _) ?_
   clear S;rintro h ⟨_,V,c',y,S⟩
   simp only [LC]at S
   simp only [BS,LB,Nat.reduceLT,Nat.reduceEqDiff,Nat.reduceAdd,F6,S.ld (b:=a) (o:=0) m1 rfl,S.ld (b:=a) (o:=1) m1 rfl]
   refine am (bW (by exact Tryz.t337.1) (by exact Xv) (by decide) (by rfl)) S ?_;clear S;intro h I S J;simp only [LC,aV,bJ,ah,Nat.reduceMul,Nat.reduceAdd,zM,zG,zY,z9]at S
   simp only [BS,LB,Nat.reduceLT,Nat.reduceEqDiff,S.ld (b:=a) (o:=0) m2 rfl,S.ld (b:=a) (o:=1) m2 rfl]
   have j:aL h 2 (.slice (some ⟨I,0,none⟩) 1 1)=some (1,iW ⟨v,k⟩):=by simp only [aL];rw [S.lds (b:=I) (o:=0) (n:=1*2) m0 (lbt rfl)];rfl
   replace S:=S.drop1
   refine dQ (S.appH C Tryz.t337.1 Xv (by decide) (by decide) Tryz.t337.2.2.2.2.2 j (by omega)) ?_
   clear S j;rintro h w ⟨B,t,ad,rfl,S,C',W⟩
   simp only [BS,LB,Nat.reduceLT,Nat.reduceEqDiff,F6]
   refine aH (aC S (i:=1) rfl ?_ ?_ ?_ ono) ?_
   . exact(by simp only [F6])
   . exact(by exact bD)
   . exact zt (lbt rfl)
   clear S;rintro h ⟨S,X⟩;clear X;simp only [LC,ah,lay,zJ,zK,Nat.reduceAdd]at S
   simp only [BS]
   refine aE (aK rfl) (q:=0) (ps:=[]) (by kernel_rfl) ?_
   have Y:au .i64 (((l.length+1:Nat):Int)-1)=((l.length:Nat):Int):=by rw [wrap64]<;>omega
   simp only [BS,LB,cls,Nat.reduceLT,Nat.reduceEqDiff,Nat.reduceAdd,Nat.reducePow,Nat.reduceDiv,Nat.reduceMod,Nat.reduceLeDiff,F6,Y,S.ld (b:=a) (o:=0) m1 rfl,S.ld (b:=a) (o:=1) m1 rfl]
   have R:dZ h a B s t N (l++[⟨v,k⟩]):=S.rowS C' (by simp) y (IF.push hn)
   refine cM (up_ok S.ok R (i:=l.length) (by simp) (by simp;omega) (uB ho ⟨v,k⟩)) ?_
   have d:=(S.own _ m0).1
   rintro r h ⟨f,Z,R',L,A⟩
   simp only [BS,LB,Nat.reduceLT,Nat.reduceAdd]
   refine⟨S.fr.trans f (fun c m=>?_),[a,B,s],⟨a,s,Z,rfl,A,(m.push P k).perm L,fun x D=>?_,.inr ⟨B,t,rfl,R'⟩⟩,fun b O=>?_⟩
   . rcases m with rfl|rfl
     . exact d.symm
     . exact .inl (by simp)
   . have:=L.mem_iff.1 D
     simp at this
     rcases this with h|rfl
     . exact hlt x h
     . exact hv
   . simp at O
     rcases O with rfl|rfl|rfl
     . exact .inl (by simp)
     . exact d.symm
     . exact .inl (by simp)
theorem xj(U:h0.t.Sized h0.n)(H:cF h0 F p N K){v:Nat}(hN:N<=1000){t k:Int}(V:K v=some t)(hle:k<=t):
 Ret zj 199 [p,.int .i64 v,.int .i64 k] h0 fun r G=>Mo (· ∈F) h0 G/\cF G F p N (dL K v (some k)):=by
 obtain⟨d,w,l,rfl,W,g,hlt,y⟩:=H.ex
 have X:=rF g hlt
 obtain⟨i,a,u⟩:=g.idx V
 have Y:v<N:=by
  have:=hlt (l.getD i default) (by rw [zk,zn a];exact zW a)
  rwa [u]at this
 have Z: ¬((v:Int)<0):=by omega
 have c2: ¬((N:Int)<=(v:Int)):=by omega
 have c3: ¬(t<k):=by omega
 rcases y with⟨rfl,_⟩|⟨A,j,rfl,R⟩
 . simp at a
 . obtain⟨I,es,c,f,m,q,C,J,L⟩:=R.ex
   have S:=St.init3 (M:=(· ∈[d,A,w])) U (o1:=.row I 1) (o2:=.row _ 1) (o3:=.map es c) m R.row q R.ne.1.symm R.ne.2.2 R.ne.2.1 (by simp) (by simp) (by simp)
   have O:=ow (x:=(v:Int)) Tryz.t218.1 Tryz.t3.1 (z:=.int .i64 0) (by kernel_rfl) q J
   have fv:f v=some (.int .i64 i):=by have:=L.1 i a;rwa [u]at this
   rw [fv]at O
   have P:=C.ld1 m a
   have Q:=C.len
   have aa:=C.le
   have ek:(l.getD i default).key=t:=by rw [u]
   have B:(l.getD i default).id=v:=by rw [u]
   rw [ek]at P
   refine ag (n:=61) (rs:=[.tmp 6]) rfl Tryz.e199 rfl rfl rfl (lbt rfl) ?_
   simp only [BS,LB,Nat.reduceLT,Nat.reduceEqDiff,F0d,O,Z,c2,c3,a,P,Xc,S.ld (b:=d) (o:=0) m1 rfl,S.ld (b:=d) (o:=1) m1 rfl,S.ld (b:=d) (o:=2) m1 rfl]
   refine aH (S.store (i:=0) (off:=i*2+1) rfl Tryz.t2.2.2.1 (by intro x e;cases e) rfl rfl (by omega) ono) ?_
   clear S;rintro h ⟨S,_⟩
   simp only [LC,ah]at S
   have T:=C.setKey a k
   generalize lay I (i*2+1) _=ac at S T
   simp only [BS,LB,Nat.reduceLT,Nat.reduceEqDiff,F0d,S.ld (b:=d) (o:=0) m1 rfl,S.ld (b:=d) (o:=1) m1 rfl]
   have R1:dZ h d A w j N (l.set i ⟨(l.getD i default).id,k⟩):=S.rowS T (by rw [zw]) J (L.setKey k)
   refine step_ret (up_ok S.ok R1 (i:=i) (by rw [zw];exact a) (by rw [zw];omega) (yC W (by unfold Ab.hle;simp only [];omega))) ?_
   rintro r h ⟨f,l',R',D,E⟩
   simp only [BS,Nat.reduceLT]
   have s:=g.lower a k
   rw [B]at s
   refine⟨S.fr.trans f (fun c g=>?_),⟨d,w,l',rfl,E,(by rw [B]at D;exact s.perm D),fun x y=>?_,.inr ⟨A,j,rfl,R'⟩⟩⟩
   . rcases g with rfl|rfl<;>exact .inl (by simp)
   . have:=D.mem_iff.1 y
     rcases List.mem_or_eq_of_mem_set this with h|rfl
     . exact hlt x h
     . rw [B];exact Y
end
end Go.Ab

end
section
namespace Go.Ab
open Go.Proofs
set_option maxRecDepth 10000
def Tryz.Fg:=aj t1<|aj t2<|aj t3<|aj t4<|aj t5<|aj t6<|aj Z2<|aj Z5<|aj t218<|aj t275<|aj t337<|aj Z6<|aj Z8<|Z9
section
variable{h0:Hp}{F:List Nat}{p:Value}{N:Nat}{K:Nat->Option Int}
theorem yO(ok:h0.t.Sized h0.n)(H:cF h0 F p N K)(hN:N<=1000):
 Ret zj 202 [p] h0 fun r h'=>(r=.tuple #[.int .i64 0,.int .i64 0,.bool false]/\(∀v,K v=none)/\Gr h0 h')\/ ∃v k,r=.tuple #[.int .i64 (v:Nat),.int .i64 k,.bool true]/\K v=some k/\(∀u k',K u=some k'->k<k'\/(k=k'/\v<=u))/\Mo (· ∈F) h0 h'/\cF h' F p N (dL K v none):=by
 obtain⟨m,B,O⟩:=sk ok H
 obtain⟨d,D,l,rfl,ho,t,hlt,hx⟩:=H.ex
 have an:=rF t hlt
 by_cases E:m=0
 . subst E
   have S:=Si ok
   refine ag (n:=55) (rs:=[.tmp 2,.tmp 3,.tmp 4]) rfl Tryz.e202 rfl rfl rfl (lbt rfl) ?_
   simp only [BS,LB,Nat.reduceLT,Nat.reduceEqDiff]
   refine ar (B) ?_;intro h g;replace S:=S.call g;clear g
   simp only [BS,LB,ae,Nat.reduceLT,Nat.reduceEqDiff,zy]
   exact .inl ⟨O.1 rfl,S.gr⟩
 . have aa: ¬((m:Int)=0):=by omega
   rcases hx with⟨rfl,_⟩|⟨y,cap,rfl,R⟩
   . exact absurd (O.2 t.nil) E
   . have a:0<l.length:=by
      cases l with
      |nil=>exact absurd (O.2 t.nil) E
      |cons x l=>simp
     have S:=Si ok
     refine ag (n:=55) (rs:=[.tmp 2,.tmp 3,.tmp 4]) rfl Tryz.e202 rfl rfl rfl (lbt rfl) ?_
     simp only [BS,LB,Nat.reduceLT,Nat.reduceEqDiff]
     refine ar (B) ?_;intro h g;replace S:=S.call g;replace R:=R.gr g;clear g
     have g0:=S.gr
     clear S
     obtain⟨cs,es,c,f,z,G,C,MI,IF⟩:=R.ex
     have r0:=R.row.load1 (o:=0) rfl
     have l2:=C.ld2 z a
     have S:=Si g0.ok
     have i0:gF (.int .i64 0) l.length=some 0:=jk (i:=0) a
     have w1:au .i64 ((l.length:Int)-1)=((l.length-1:Nat):Int):=by rw [wrap64]<;>omega
     simp only [BS,LB,Nat.reduceLT,Nat.reduceEqDiff,aa]
     refine aE (nf (ord:=[14,0,1,2,3,4,5,6,7,8,9,10,11,12,13,15,16]) rfl rfl (by simp only [dv,reix,dT,List.getElem?_cons_zero,List.getElem?_cons_succ,List.map_toArray,zz,XB,Nat.reduceBEq,cond_true,cond_false];exact rfl)) (q:=1) (ps:=[(13,15),(12,15)]) (by kernel_rfl) ?_
     simp only [BS,LB,cls,Nat.reducePow,Nat.reduceDiv,Nat.reduceMod,Nat.reduceLeDiff,Fg]
     refine dw aF S ?_;clear S;intro h s S ak al
     simp only [BS,LB,cls,Nat.reduceLT,Nat.reduceEqDiff,Nat.reduceAdd,Nat.reducePow,Nat.reduceDiv,Nat.reduceMod,Nat.reduceLeDiff,Fg,S.old r0 (fun h=>h),S.old l2 (fun h=>h),i0,w1]
     refine cU (S.store (i:=0) rfl ?_ ?_ rfl rfl ?_ ono) ?_
     . exact(by exact Tryz.t339.2.1)
     . exact(by intro x e;cases e)
     . exact lbt rfl
     clear S;rintro h ⟨S,mo⟩;clear mo;simp only [LC,ah,lay,zJ,zK,Nat.reduceAdd]at S
     simp only [BS,LB,cls,Nat.reduceLT,Nat.reduceEqDiff,Nat.reduceAdd,Nat.reducePow,Nat.reduceDiv,Nat.reduceMod,Nat.reduceLeDiff,Fg,S.old r0 (fun h=>h),S.old l2 (fun h=>h)]
     have g1:=S.gr
     have R1:=R.gr g1
     have Y:=S.lds (b:=s) (o:=0) (n:=2) m0 (lbt rfl)
     have A:=R.lt g0.ok
     have nb:s≠d:=fun e=>by have:=A d (.inl rfl);omega
     have P:s≠y:=fun e=>by have:=A y (.inr (.inl rfl));omega
     refine⟨by simp only [bH,bN,a8,bP,bz,ne_eq,not_false_eq_true,bZ,cv,bV,bG,cy,dl,aQ,Nat.reduceLT,Nat.reduceEqDiff,reduceIte,Bool.and_true,ao,mj,note_len,ez nb,ez nb.symm,ez P,ez P.symm],?_⟩
     have sw:Ret zj 247 [ptrTo d,.int .i64 0,.int .i64 ((l.length-1:Nat):Int)] _ _:=qu S.ok R1 (i:=0) (k:=l.length-1) a (by omega)
     refine step_ret sw ?_
     --refine step_ret (qu S.ok R1 (i := 0) (k := l.length - 1) a (by omega)) ?_
     rintro r I ⟨Z,L⟩
     have gg:Gr h0 h:=g0.trans g1
     have mA:Mo (· ∈[d,y,D]) h0 I:=(gg.fr (M:=(· ∈[d,y,D]))).trans Z (fun c t=>.inl (by rcases t with rfl|rfl<;>simp))
     have J:I.load s 0 2=some [.int .i64 (l.getD 0 default).id,.int .i64 (l.getD 0 default).key]:=by
      have:=Z.get s (bw Z.ok0 Y) (fun hM=>by have:=A s (.inr hM);omega)
      unfold Hp.load at Y⊢
      rw [this];exact Y
     have a0:=L.lt mA.ok
     have ac:=mA.ok
     have Q:=bw mA.ok J
     clear S R R1 Z sw z G C MI IF Y l2 r0
     obtain⟨cs,es,c,f,z,G,C,MI,IF⟩:=L.ex
     have S:=St.init3 (M:=(· ∈[d,y,D])) (h:=I) ac (o1:=.row cs 1) (o2:=.row _ 1) (o3:=.map es c) z L.row G L.ne.1.symm L.ne.2.2 L.ne.2.1 (by simp) (by simp) (by simp)
     have sl:=vS (kd:=.i64) (b:=y) (len:=(sw l 0 (l.length-1)).length) (n:=l.length-1) Tryz.t337.1 Tryz.t344.2.1 (cap:=cap) (by have:=C.le;rw [fm]at this;omega)
     simp only [BS,LB,Nat.reduceLT,Nat.reduceEqDiff,Option.map_some,Option.map_none,Fg,sl,S.ld (b:=d) (o:=0) m1 rfl,S.ld (b:=d) (o:=1) m1 rfl]
     refine aH (aC S (i:=1) rfl ?_ ?_ ?_ ono) ?_
     . exact(by simp only [Fg])
     . exact(by exact bD)
     . exact zt (lbt rfl)
     clear S;rintro h ⟨S,mo⟩;clear mo;simp only [LC,ah,lay,zJ,zK,Nat.reduceAdd]at S
     simp only [BS,S.ld (b:=d) (o:=0) m1 rfl,S.ld (b:=d) (o:=1) m1 rfl]
     refine aE (aK rfl) (q:=0) (ps:=[]) (by kernel_rfl) ?_
     have T: ¬s∈[d,y,D]:=fun O=>by
      have:=A s (by simpa using O)
      omega
     have U:I.load s 0 1=some [.int .i64 (l.getD 0 default).id]:=by have:=oS J (i:=0) (m:=1) (by omega);simpa using this
     have ad:I.load s 1 1=some [.int .i64 (l.getD 0 default).key]:=by have:=oS J (i:=1) (m:=1) (by omega);simpa using this
     simp only [BS,LB,cls,Nat.reduceLT,Nat.reduceEqDiff,Nat.reduceAdd,Nat.reducePow,Nat.reduceDiv,Nat.reduceMod,Nat.reduceLeDiff,Fg,S.old U T,S.ld (b:=d) (o:=1) m1 rfl]
     refine dn_del (S.mdelI (i:=2) rfl Tryz.t218.1 Tryz.t3.1 MI) ?_
     clear S;rintro h ⟨_,a1,c',af,S⟩
     simp only [LC]at S
     simp only [BS,LB,Nat.reduceLT,Nat.reduceEqDiff,Nat.reduceAdd,Fg]
     have V:(sw l 0 (l.length-1)).length=l.length:=fm _ _ _
     have w:=gb l (i:=0) (k:=l.length-1) a (by omega) (l.length-1)
     rw [if_pos rfl]at w
     have W:=IF.cut (m:=l.length-1) (by omega)
     rw [w]at W
     have tl:((sw l 0 (l.length-1)).take (l.length-1)).length=l.length-1:=by rw [zI,V];omega
     have R3:dZ h d y D cap N ((sw l 0 (l.length-1)).take (l.length-1)):=S.rowS (C.take _) tl.symm af W
     have dn:Ret zj 248 [ptrTo d,.int .i64 0] h _:=down_ok S.ok R3 (i:=0) (by
      by_cases e:l.length-1=0
      . exact .inr ⟨List.length_eq_zero_iff.1 (by rw [tl,e]),rfl⟩
      . exact .inl (by omega)) (by omega) (heap_pop ho a)
     refine step_ret dn ?_
     rintro r h ⟨fB,l',R',pm,ai⟩
     have mB:Mo (· ∈[d,y,D]) I h:=S.fr.trans fB (fun c t=>.inl (by rcases t with rfl|rfl<;>simp))
     have X: ∀{o x},I.load s o 1=some x->h.load s o 1=some x:=fun e=>by
      have:=mB.get s Q T
      unfold Hp.load at e⊢
      rw [this];exact e
     simp only [BS]
     refine aE (aK rfl) (q:=0) (ps:=[]) (by kernel_rfl) ?_
     simp only [BS,LB,cls,ae,Nat.reduceLT,Nat.reduceEqDiff,Nat.reduceAdd,Nat.reducePow,Nat.reduceDiv,Nat.reduceMod,Nat.reduceLeDiff,Fg,X U,X ad]
     refine .inr ⟨(l.getD 0 default).id,(l.getD 0 default).key,rfl,t.at a,fun u k' hu=>?_,mA.trans mB (fun c t=>.inl t),⟨d,D,l',rfl,ai,(t.pop a).perm pm,fun x hx=>?_,.inr ⟨y,cap,rfl,R'⟩⟩⟩
     . obtain⟨j,hj,e⟩:=t.idx hu
       have:=heap_min ho j hj
       rw [e]at this
       unfold Ab.hle at this
       simp only []at this
       omega
     . exact hlt x ((qf l a (by omega)).mem_iff.1 (Xw (pm.mem_iff.1 hx)))
end
end Go.Ab

end
section
namespace Go.Ab
theorem Wk.trans{B:List Arc}{a b c x y:Nat}(h:Wk B a b x)(k:Wk B b c y):Wk B a c (x+y):=by
 induction k with
 |nil=>exact h
 | @snoc w e d _ f=>exact Wk.snoc' f d rfl rfl (by omega)
theorem Wk.back{B C:List Arc}(c: ∀a∈B,∃b∈C,b.s=a.t/\b.t=a.s/\b.w=a.w){m v w x y:Nat}(h:Wk B v w x)(k:Wk C m w y):Wk C m v (x+y):=by
 induction h generalizing y with
 |nil=>rw [zG];exact k
 | @snoc z e d _ f=>
   obtain⟨b,g,i,j,l⟩:=c e d
   have:=f (Wk.snoc' k g i j rfl)
   rw [l]at this
   rw [show z+e.w+y=z+(y+e.w) by omega];exact this
theorem IsD.wk{B:List Arc}{s v x w:Nat}(h:IsD B s v x)(k:Wk B s v w):x<FAR/\x<=w/\Wk B s v x:=by
 rcases h with⟨a,b,c⟩|⟨a,b⟩
 . exact⟨a,c w k,b⟩
 . exact absurd k (b w)
theorem IsD.far{B:List Arc}{s v x:Nat}(h:IsD B s v x)(d:x<FAR):Wk B s v x:=by
 rcases h with⟨a,b,c⟩|⟨a,b⟩
 . exact b
 . omega
end Go.Ab

end
section
namespace Go.Ab
structure Ev where
 kind:Nat
 id:Nat
 lab:Nat
def fT(e:Ev):List Value:=[.int .i64 e.kind,.int .i64 0,.int .i64 e.id,.int .i64 e.lab]
theorem rJ(e:Ev):(fT e).length=4:=rfl
structure SS where
 K:Nat->Option Int
 L:Nat->Nat
 P:Nat->List Nat
 O:List Nat
 ev:List Ev
structure Fd where
 dist:Nat
 arcs:List Nat
 ev:List Ev
def Pops(K:Nat->Option Int)(v:Nat)(k:Int):Prop:=K v=some k/\ ∀u a,K u=some a->k<a\/(k=a/\v<=u)
def je(P:Nat->List Nat)(v:Nat)(l:List Nat):Nat->List Nat:=fun u=>if u=v then l else P u
def dH(pi:Nat->Int)(σ:SS)(v lab:Nat)(p:List Nat):SS:=
 if v∈σ.O\/(FAR:Int)<=pi v\/((σ.K v).isSome=true/\σ.L v<=lab)then σ else⟨dL σ.K v (some (lab+pi v)),fg σ.L v lab,je σ.P v p,σ.O,σ.ev⟩
def cu(σ:SS)(v:Nat):SS:=⟨dL σ.K v none,σ.L,σ.P,σ.O++[v],σ.ev++[⟨0,v,σ.L v⟩]⟩
def evS(σ:SS)(e:Ev):SS:=⟨σ.K,σ.L,σ.P,σ.O,σ.ev++[e]⟩
def scan1(A:List Arc)(b:Nat->Bool)(pi:Nat->Int)(v:Nat)(σ:SS)(a:Nat):SS:=
 if b a=true then dH pi (evS σ ⟨1,a,0⟩) (A.getD a default).t (σ.L v+(A.getD a default).w) (a::σ.P v)else σ
def jQ(A:List Arc)(a:Nat->Bool)(pi:Nat->Int)(v:Nat)(σ:SS):SS:=(outs A Arc.s A.length v).foldl (scan1 A a pi v) σ
def iv(pi:Nat->Int)(s:Nat):SS:=dH pi ⟨fun _=>none,fun _=>0,fun _=>[],[],[]⟩ s 0 []
inductive Ends(A:List Arc)(al:Nat->Bool)(pi:Nat->Int)(to:Nat):SS->Fd->Prop where
 |none {σ:SS}:(∀v,σ.K v=none)->Ends A al pi to σ ⟨FAR,[],σ.ev⟩
 |hit {σ:SS} {k:Int}:Pops σ.K to k->Ends A al pi to σ ⟨σ.L to,(σ.P to).reverse,(cu σ to).ev⟩
 |step {σ:SS} {v:Nat} {k:Int} {r:Fd}:Pops σ.K v k->v≠to->Ends A al pi to (jQ A al pi v (cu σ v)) r->Ends A al pi to σ r
section
variable{A:List Arc}{N s:Nat}{al:Nat->Bool}{pi:Nat->Int}{σ:SS}
structure Sv(A:List Arc)(N s:Nat)(al:Nat->Bool)(pi:Nat->Int)(σ:SS):Prop where
 nd:σ.O.Nodup
 lt: ∀v∈σ.O,v<N
 op: ∀v k,σ.K v=some k->v<N/\v∉σ.O/\pi v<(FAR:Int)/\k=σ.L v+pi v
 bd: ∀v,σ.L v<=σ.O.length*co/\(σ.P v).length<=σ.O.length
 pc: ∀v∈σ.O,pi v<(FAR:Int)
 path: ∀v,(v∈σ.O\/σ.K v≠none)->(v=s/\σ.P v=[]/\σ.L v=0)\/ ∃a,a<A.length/\al a=true/\(A.getD a default).t=v/\(A.getD a default).s∈σ.O/\σ.P v=a::σ.P (A.getD a default).s/\σ.L v=σ.L (A.getD a default).s+(A.getD a default).w
theorem Sv.len(h:Sv A N s al pi σ):σ.O.length<=N:=mH N σ.O h.nd h.lt
theorem Sv.evS(h:Sv A N s al pi σ)(e:Ev):Sv A N s al pi (evS σ e):=⟨h.nd,h.lt,h.op,h.bd,h.pc,h.path⟩
theorem qF(a:s<N):Sv A N s al pi (iv pi s):=by
 unfold iv dH
 have z:Sv A N s al pi ⟨fun _=>none,fun _=>0,fun _=>[],[],[]⟩:=
  ⟨.nil,fun v h=>(by cases h),fun v k h=>(by cases h),fun v=>⟨Xh _,Xh _⟩,fun v h=>(by cases h),fun v h=>h.elim (fun h=>by cases h) (fun h=>absurd rfl h)⟩
 split
 . exact z
 . rename_i b
   simp only [not_or]at b
   refine⟨.nil,fun v h=>(by cases h),fun v k h=>?_,fun v=>⟨?_,?_⟩,fun v h=>(by cases h),fun v h=>?_⟩
   . simp only [dL,fg]at h⊢
     split at h
     . rename_i e;subst e;cases h
       exact⟨a,by simp,by omega,by simp⟩
     . cases h
   . simp only [fg];split<;>simp
   . simp only [je];split<;>simp
   . by_cases e:v=s
     . subst e;exact .inl ⟨rfl,by simp [je],by simp [fg]⟩
     . simp [dL,e]at h
structure jM(σ τ:SS):Prop where
 O:τ.O=σ.O
 L: ∀u∈σ.O,τ.L u=σ.L u
 P: ∀u∈σ.O,τ.P u=σ.P u
theorem jM.refl:jM σ σ:=⟨rfl,fun _ _=>rfl,fun _ _=>rfl⟩
theorem jM.trans{b c:SS}(h:jM σ b)(g:jM b c):jM σ c:=
 ⟨g.O.trans h.O,fun u a=>(g.L u (by rw [h.O];exact a)).trans (h.L u a),fun u a=>(g.P u (by rw [h.O];exact a)).trans (h.P u a)⟩
theorem Sv.reach(h:Sv A N s al pi σ){a lab v:Nat}{p:List Nat}(t:a<A.length)(f:al a=true)(w:(A.getD a default).t=v)(x:v<N)(g:(A.getD a default).s∈σ.O)(y:lab=σ.L (A.getD a default).s+(A.getD a default).w)(z:p=a::σ.P (A.getD a default).s)
 (B:lab<=σ.O.length*co) (C:p.length<=σ.O.length):Sv A N s al pi (dH pi σ v lab p)/\jM σ (dH pi σ v lab p):=by
 unfold dH
 split
 . exact⟨h,.refl⟩
 . rename_i o
   simp only [not_or]at o
   obtain⟨r,H,I⟩:=o
   have q: ∀u∈σ.O,u≠v:=fun u c e=>r (by subst e;exact c)
   refine⟨⟨h.nd,h.lt,fun u k d=>?_,fun u=>⟨?_,?_⟩,h.pc,fun u c=>?_⟩,⟨rfl,fun u c=>by simp [fg,q u c],fun u c=>by simp [je,q u c]⟩⟩
   . simp only [dL,fg]at d⊢
     split at d
     . rename_i e;subst e;cases d
       exact⟨x,r,by omega,by simp⟩
     . rename_i e
       rw [if_neg e];exact h.op u k d
   . simp only [fg];split
     . exact B
     . exact(h.bd u).1
   . simp only [je];split
     . exact C
     . exact(h.bd u).2
   . have D:fg σ.L v lab (A.getD a default).s=σ.L (A.getD a default).s:=if_neg (q _ g)
     have E:je σ.P v p (A.getD a default).s=σ.P (A.getD a default).s:=if_neg (q _ g)
     by_cases e:u=v
     . subst e
       refine .inr ⟨a,t,f,w,g,?_,?_⟩
       . show je σ.P u p u=a::je σ.P u p (A.getD a default).s
         rw [E,<-z];exact if_pos rfl
       . show fg σ.L u lab u=fg σ.L u lab (A.getD a default).s+(A.getD a default).w
         rw [D,<-y];exact if_pos rfl
     . have i:u∈σ.O\/σ.K u≠none:=by simpa [dL,e]using c
       rcases h.path u i with⟨j,l,m⟩|⟨b,j,l,m,n,F,G⟩
       . exact .inl ⟨j,by simp [je,e,l],by simp [fg,e,m]⟩
       . refine .inr ⟨b,j,l,m,n,?_,?_⟩
         . simp only [je,if_neg e,if_neg (q _ n)];exact F
         . simp only [fg,if_neg e,if_neg (q _ n)];exact G
theorem Sv.close(h:Sv A N s al pi σ){v:Nat}{k:Int}(i:σ.K v=some k):Sv A N s al pi (cu σ v):=by
 obtain⟨l,m,n,C⟩:=h.op v k i
 have o:(σ.O++[v]).length*co=σ.O.length*co+co:=by rw [zP,Xr,Nat.succ_mul]
 refine⟨?_,fun u f=>?_,fun u p f=>?_,fun u=>⟨?_,?_⟩,fun u f=>?_,fun u f=>?_⟩
 . show(σ.O++[v]).Nodup
   rw [zq]
   exact⟨h.nd,by simp,fun a q b j e=>m (by simp at j;subst j;subst e;exact q)⟩
 . rcases List.mem_append.1 f with f|f
   . exact h.lt u f
   . simp at f;subst f;exact l
 . simp only [cu,dL]at f⊢
   split at f
   . cases f
   . rename_i e
     obtain⟨a,b,c,d⟩:=h.op u p f
     exact⟨a,by simp [b,e],c,d⟩
 . show σ.L u<=(σ.O++[v]).length*co
   rw [o];have:=(h.bd u).1;omega
 . show(σ.P u).length<=(σ.O++[v]).length
   have:=(h.bd u).2;simp;omega
 . rcases List.mem_append.1 f with f|f
   . exact h.pc u f
   . simp at f;subst f;exact n
 . have g:u∈σ.O\/σ.K u≠none:=by
    by_cases e:u=v
    . subst e;exact .inr (by rw [i];nofun)
    . simpa [cu,dL,e]using f
   rcases h.path u g with r|⟨b,t,w,x,y,z,B⟩
   . exact .inl r
   . exact .inr ⟨b,t,w,x,zl _ y,z,B⟩
def Room(σ:SS)(v:Nat):Prop:=v∈σ.O/\σ.L v+co<=σ.O.length*co/\(σ.P v).length+1<=σ.O.length
theorem Room.keeps{d:SS}{v:Nat}(r:Room σ v)(k:jM σ d):Room d v:=by
 obtain⟨a,b,c⟩:=r
 exact⟨by rw [k.O];exact a,by rw [k.O,k.L v a];exact b,by rw [k.O,k.P v a];exact c⟩
theorem Sv.room(h:Sv A N s al pi σ)(v:Nat):Room (cu σ v) v:=by
 have:=h.bd v
 refine⟨zp _ (by simp),?_,?_⟩
 . show σ.L v+co<=(σ.O++[v]).length*co
   rw [zP,Xr,Nat.succ_mul];omega
 . show(σ.P v).length+1<=(σ.O++[v]).length
   simp;omega
theorem Sv.scan1(h:Sv A N s al pi σ)(e: ∀a∈A,a.t<N/\a.w<=co){v a:Nat}(r:Room σ v)(b:a<A.length)(f:(A.getD a default).s=v):Sv A N s al pi (scan1 A al pi v σ a)/\jM σ (scan1 A al pi v σ a):=by
 unfold Ab.scan1
 split
 . rename_i c
   obtain⟨g,l,i⟩:=r
   have j:=e (A.getD a default) (by rw [zk,zn b];exact zW b)
   subst f
   obtain⟨k,d⟩:=(h.evS ⟨1,a,0⟩).reach (p:=a::σ.P (A.getD a default).s) (lab:=σ.L (A.getD a default).s+(A.getD a default).w) b c rfl j.1 g rfl rfl (by show _<=σ.O.length*co;omega) (by show(σ.P _).length+1<=σ.O.length;exact i)
   exact⟨k,⟨d.O,d.L,d.P⟩⟩
 . exact⟨h,.refl⟩
theorem Sv.scanL(d: ∀a∈A,a.t<N/\a.w<=co){v:Nat}: ∀(l:List Nat) {σ:SS},Sv A N s al pi σ->Room σ v->(∀a∈l,a<A.length/\(A.getD a default).s=v)->Sv A N s al pi (l.foldl (Ab.scan1 A al pi v) σ)/\jM σ (l.foldl (Ab.scan1 A al pi v) σ)
 | [],_,h,_,_=>⟨h,.refl⟩
 | a::l,σ,h,r,c=>by
   obtain⟨f,e⟩:=h.scan1 d r (c a (by simp)).1 (c a (by simp)).2
   obtain⟨g,i⟩:=Sv.scanL d l f (r.keeps e) (fun b j=>c b (by simp [j]))
   exact⟨g,e.trans i⟩
theorem Sv.next(h:Sv A N s al pi σ)(b: ∀a∈A,a.t<N/\a.w<=co){v:Nat}{k:Int}(c:σ.K v=some k):Sv A N s al pi (jQ A al pi v (cu σ v))/\jM (cu σ v) (jQ A al pi v (cu σ v)):=
 Sv.scanL b _ (h.close c) (h.room v) (fun _ d=>j9.1 d)

def InH(A:List Arc)(al:Nat->Bool)(pi:Nat->Int)(a:Nat):Prop:=al a=true/\pi (A.getD a default).s<(FAR:Int)/\pi (A.getD a default).t<(FAR:Int)
instance (a:Nat):Decidable (InH A al pi a):=by unfold InH;infer_instance
def m7(A:List Arc)(al:Nat->Bool)(pi:Nat->Int):List Arc:=((zV A.length).filter fun a=>decide (InH A al pi a)).map fun a=>A.getD a default
theorem ub{a:Arc}:a∈m7 A al pi↔ ∃i,i<A.length/\InH A al pi i/\A.getD i default=a:=by
 unfold m7
 simp only [List.mem_map,List.mem_filter,List.mem_range,decide_eq_true_eq,and_assoc]
def Feas(A:List Arc)(al:Nat->Bool)(pi:Nat->Int):Prop:= ∀i,i<A.length->InH A al pi i->pi (A.getD i default).s<=(A.getD i default).w+pi (A.getD i default).t
theorem Sv.wk(h:Sv A N s al pi σ): ∀(n:Nat) {v:Nat},(σ.P v).length<=n->(v∈σ.O\/σ.K v≠none)->Wk (m7 A al pi) s v (σ.L v):=by
 have i: ∀v,(v∈σ.O\/σ.K v≠none)->pi v<(FAR:Int):=fun v b=>b.elim (h.pc v) (fun b=>by
  cases d:σ.K v with
  |none=>exact absurd d b
  |some k=>exact(h.op v k d).2.2.1)
 intro n
 induction n with
 | zero=>
   intro v c b
   rcases h.path v b with⟨rfl,_,e⟩|⟨a,_,_,_,_,e,_⟩
   . rw [e];exact .nil
   . rw [e]at c;simp at c
 | succ n j=>
   intro v c b
   rcases h.path v b with⟨rfl,_,e⟩|⟨a,l,m,f,g,o,p⟩
   . rw [e];exact .nil
   . rw [o]at c
     rw [p]
     exact Wk.snoc' (j (v:=(A.getD a default).s) (by simpa using c) (.inl g)) (ub.2 ⟨a,l,⟨m,h.pc _ g,by rw [f];exact i v b⟩,rfl⟩) rfl f rfl
structure Fe(A:List Arc)(s:Nat)(al:Nat->Bool)(pi:Nat->Int)(σ:SS)(ex:Nat->Prop):Prop where
 opt: ∀v∈σ.O,∀w,Wk (m7 A al pi) s v w->σ.L v<=w
 fr: ∀a,a<A.length->InH A al pi a->(A.getD a default).s∈σ.O-> ¬ex a->(A.getD a default).t∈σ.O\/(σ.K (A.getD a default).t≠none/\σ.L (A.getD a default).t<=σ.L (A.getD a default).s+(A.getD a default).w)
 st:s∈σ.O\/(σ.K s≠none/\σ.L s=0)
theorem Fe.front(f:Fe A s al pi σ (fun _=>False))(h:Sv A N s al pi σ)(j:Feas A al pi){x w:Nat}(k:Wk (m7 A al pi) s x w):x∈σ.O\/ ∃y,σ.K y≠none/\(σ.L y:Int)+pi y<=w+pi x:=by
 induction k with
 |nil=>exact f.st.imp (fun h=>h) (fun⟨a,b⟩=>⟨s,a,by rw [b];omega⟩)
 | @snoc w a l m d=>
   obtain⟨i,e,g,rfl⟩:=ub.1 l
   have o:=j i e g
   rcases d with d|⟨y,c,n⟩
   . rcases f.fr i e g d (fun h=>h)with c|⟨c,n⟩
     . exact .inl c
     . have:=f.opt _ d _ m
       exact .inr ⟨_,c,by omega⟩
   . exact .inr ⟨y,c,by omega⟩
theorem Fe.popped(f:Fe A s al pi σ (fun _=>False))(h:Sv A N s al pi σ)(m:Feas A al pi){v:Nat}{k:Int}(e:Pops σ.K v k):
 (∀w,Wk (m7 A al pi) s v w->σ.L v<=w)/\ ∀x w,x∉σ.O->Wk (m7 A al pi) s x w->(σ.L v:Int)+pi v<=w+pi x:=by
 have d: ∀x w,x∉σ.O->Wk (m7 A al pi) s x w->(σ.L v:Int)+pi v<=w+pi x:=fun x w n g=>by
  rcases f.front h m g with i|⟨y,i,o⟩
  . exact absurd i n
  . cases j:σ.K y with
    |none=>exact absurd j i
    | some l=>
      have a:=(h.op y l j).2.2.2
      have b:=(h.op v k e.1).2.2.2
      have c:=e.2 y l j
      omega
 refine⟨fun w g=>?_,d⟩
 have:=d v w (h.op v k e.1).2.1 g
 omega
theorem Fe.close(f:Fe A s al pi σ (fun _=>False))(h:Sv A N s al pi σ)(i:Feas A al pi){v:Nat}{k:Int}(j:Pops σ.K v k):Fe A s al pi (cu σ v) (fun a=>(A.getD a default).s=v):=by
 have l:=(f.popped h i j).1
 refine⟨fun u c=>?_,fun a m n d o=>?_,?_⟩
 . rcases List.mem_append.1 c with c|c
   . exact f.opt u c
   . simp at c;subst c;exact l
 . rcases List.mem_append.1 d with d|d
   . rcases f.fr a m n d (fun h=>h)with b|⟨b,g⟩
     . exact .inl (zl _ b)
     . by_cases e:(A.getD a default).t=v
       . exact .inl (zp _ (List.mem_singleton.2 e))
       . exact .inr ⟨by simp only [cu,dL];rw [if_neg e];exact b,g⟩
   . simp at d;exact absurd d o
 . rcases f.st with b|⟨b,g⟩
   . exact .inl (zl _ b)
   . by_cases e:s=v
     . exact .inl (zp _ (List.mem_singleton.2 e))
     . exact .inr ⟨by simp only [cu,dL];rw [if_neg e];exact b,g⟩
theorem Fe.reach{t ex':Nat->Prop}(f:Fe A s al pi σ t){a v lab:Nat}{p:List Nat}(n:(A.getD a default).t=v)(B:lab=σ.L (A.getD a default).s+(A.getD a default).w)(o: ∀b,¬ex' b-> ¬t b\/(b=a)):Fe A s al pi (dH pi σ v lab p) ex':=by
 unfold dH
 split
 . rename_i h
   refine⟨f.opt,fun b l i j g=>?_,f.st⟩
   rcases o b g with c|rfl
   . exact f.fr b l i j c
   . rw [n]
     rcases h with h|h|⟨c,d⟩
     . exact .inl h
     . have:=i.2.2;rw [n]at this;omega
     . exact .inr ⟨fun e=>(by rw [e]at c;cases c),by omega⟩
 . rename_i h
   simp only [not_or]at h
   obtain⟨w,C,y⟩:=h
   have x:=fun c d=>y ⟨c,d⟩
   have q: ∀u∈σ.O,u≠v:=fun u m e=>w (by subst e;exact m)
   refine⟨fun u m=>?_,fun b l i j g=>?_,?_⟩
   . simp only [fg,if_neg (q u m)];exact f.opt u m
   . simp only [fg,dL,if_neg (q _ j)]
     by_cases e:(A.getD b default).t=v
     . right
       simp only [e,if_true]
       refine⟨by nofun,?_⟩
       rcases o b g with c|rfl
       . rcases f.fr b l i j c with d|⟨d,z⟩
         . rw [e]at d;exact absurd d w
         . rw [e]at d z
           have: ¬σ.L v<=lab:=x (by cases r:σ.K v with|none=>exact absurd r d|some k=>rfl)
           omega
       . omega
     . simp only [if_neg e]
       rcases o b g with c|rfl
       . exact f.fr b l i j c
       . exact absurd n e
   . rcases f.st with c|⟨c,d⟩
     . exact .inl c
     . by_cases e:s=v
       . subst e
         have: ¬σ.L s<=lab:=x (by cases r:σ.K s with|none=>exact absurd r c|some k=>rfl)
         omega
       . exact .inr ⟨by simp only [dL,if_neg e];exact c,by simp only [fg,if_neg e];exact d⟩
theorem Fe.exm{b ex':Nat->Prop}(f:Fe A s al pi σ b)(h: ∀a,a<A.length->b a->ex' a):Fe A s al pi σ ex':=
 ⟨f.opt,fun a c d e g=>f.fr a c d e (fun i=>g (h a c i)),f.st⟩
theorem Fe.scan1{e ex':Nat->Prop}(f:Fe A s al pi σ e){a v:Nat}(j:(A.getD a default).s=v)(g: ∀b,¬ex' b-> ¬e b\/(b=a)):Fe A s al pi (scan1 A al pi v σ a) ex':=by
 unfold Ab.scan1
 split
 . subst j
   exact Fe.reach (σ:=evS σ ⟨1,a,0⟩) ⟨f.opt,f.fr,f.st⟩ rfl rfl g
 . rename_i c
   refine⟨f.opt,fun b k i l d=>?_,f.st⟩
   rcases g b d with h|rfl
   . exact f.fr b k i l h
   . exact absurd i.1 c
theorem Fe.scanL{v:Nat}: ∀(l:List Nat) {σ:SS},Fe A s al pi σ (· ∈l)->(∀a∈l,(A.getD a default).s=v)->Fe A s al pi (l.foldl (Ab.scan1 A al pi v) σ) (fun _=>False)
 | [],_,f,_=>f.exm (fun a _ h=>by cases h)
 |a::l,σ,f,d=>Fe.scanL l (f.scan1 (a:=a) (d a (by simp)) (fun b c=>by by_cases e:b=a;exact .inr e;exact .inl (by simp [e,c]))) (fun b c=>d b (by simp [c]))
theorem Fe.next(f:Fe A s al pi σ (fun _=>False))(h:Sv A N s al pi σ)(c:Feas A al pi){v:Nat}{k:Int}(d:Pops σ.K v k):Fe A s al pi (jQ A al pi v (cu σ v)) (fun _=>False):=
 Fe.scanL _ ((f.close h c d).exm fun a b e=>j9.2 ⟨b,e⟩) (fun a b=>(j9.1 b).2)
theorem Wk.mono{B C:List Arc}(b: ∀a∈B,a∈C){v w:Nat}(h:Wk B s v w):Wk C s v w:=by
 induction h with
 |nil=>exact .nil
 |snoc c _ d=>exact .snoc (b _ c) d
theorem IsD.congr{B C:List Arc}(d: ∀a,a∈B↔a∈C){v x:Nat}(h:IsD B s v x):IsD C s v x:=by
 rcases h with⟨a,b,c⟩|⟨a,b⟩
 . exact .inl ⟨a,b.mono fun a=>(d a).1,fun w e=>c w (e.mono fun a=>(d a).2)⟩
 . exact .inr ⟨a,fun w e=>b w (e.mono fun a=>(d a).2)⟩
end
end Go.Ab

end
section
namespace Go.Ab
def IterN(E:Env)(g:FuncId)(b a:List Value)(h0:Hp)(D:Nat->Prop)(xs:List (List Value)):Prop:=
 ∀c J Z,(∀v h,¬Z (.pan v) h)->Yld E c J Z xs-> ∀h F,ItS h0 D h F->J 0 h F->fu E g (b++[.func (.yield c) #[] #[]]++a) none h (YQ J Z xs.length)
def io(h a:Hp):Prop:= ∀b,b<h.n->a.get b=h.get b
theorem io.load{h a:Hp}(c:h.t.Sized h.n)(g:io h a){b o n:Nat}{l:List Value}(e:h.load b o n=some l):a.load b o n=some l:=by
 have:=g b (bw c e)
 unfold Hp.load at e⊢
 rw [this];exact e
theorem io.row{h a:Hp}(c:h.t.Sized h.n)(g:io h a){b:Nat}{l:List Value}{md:Nat}(r:Row h b l md):Row a b l md:=Row.of_get (g b (r.lt c)) r
theorem ax.keep{α:Type}{h a:Hp}{k:Nat}{enc:α->List Value}{v:Value}{xs:List α}(d:h.t.Sized h.n)(g:io h a)(s:ax h k enc v xs):ax a k enc v xs:=by
 rcases s with s|⟨b,o,s,c,e,f,i⟩
 . exact .inl s
 . exact .inr ⟨b,o,s,c,e,f,g.load d i⟩
theorem eF.keep{h d:Hp}{v:Value}{m N:Nat}{R:Nat->List Nat}(e:h.t.Sized h.n)(g:io h d)(r:eF h m v N R):eF d m v N R:=by
 obtain⟨f,j,k,l,n,o,p⟩:=r
 exact⟨f,j,k,l,g.row e n,o,fun i q=>by
  obtain⟨w,a,b,c⟩:=p i q
  exact⟨w,a,b.keep e g,c⟩⟩
theorem cE.keep{h d:Hp}{m:Nat}{p:Value}{e:Gra}(a:h.t.Sized h.n)(g:io h d)(n:cE h m p e):cE d m p e:=by
 obtain⟨b,f,i,j,k,l,o,q,c,r,s,t,u⟩:=n.ex
 exact⟨b,f,i,j,k,l,o,g.row a q,⟨c.X.keep a g,c.Y.keep a g,c.A.keep a g⟩,r.keep a g,s.keep a g,t,u⟩
theorem Gr.keep{h a:Hp}(g:Gr h a):io h a:=g.get
theorem io.trans{a b c:Hp}(x:io a b)(n:a.n<=b.n)(y:io b c):io a c:=fun i d=>(y i (z8 d n)).trans (x i d)
theorem ItS.keep{a h0 h:Hp}{D:Nat->Prop}{F:List Nat}(s:ItS h0 D h F)(g:io a h0)(n:a.n<=h0.n)(e: ∀c,c<a.n->D c):io a h:=fun b d=>(s.data b (z8 d n) (e b d)).trans (g b d)
theorem wrapUn{n:Int}(a:0<=n)(b:n<18446744073709551616):au .u64 n=n:=by
 obtain⟨m,rfl⟩:=Int.eq_ofNat_of_zero_le a
 show au .u64 (.ofNat m)=_
 unfold au
 simp only [hf,sgn,pw]
 have:Nat.blt m 18446744073709551616=true:=by rw [Xu];omega
 rw [this];rfl
theorem b_andU{E:Env}{t:TypeId}{x y:Operand}{N:Nat}(h:N<4294967296):bj E .and t x y (.int .u64 (N:Int)) (.int .u64 4294967295)=some (.int .u64 (N:Int)):=by
 have a:Nat.blt N 18446744073709551616=true:=by rw [Xu];omega
 have b:Nat.land N 4294967295=N:=by
  have:=Nat.and_two_pow_sub_one_eq_mod N 32
  rw [show(2 ^32-1:Nat)=4294967295 from rfl,show(2 ^32:Nat)=4294967296 from rfl,Nat.mod_eq_of_lt h]at this
  exact this
 have c:=wrapUn (n:=(N:Int)) (by omega) (by omega)
 have e4:pd .and .u64 (.ofNat N) (.ofNat 4294967295)=some (au .u64 (.ofNat (Nat.land N 4294967295))):=by
  simp only [pd,pw]
  rw [a];rfl
 show(pd .and .u64 (.ofNat N) (.ofNat 4294967295)).map _=_
 rw [e4,b]
 show some (Value.int .u64 (au .u64 (N:Int)))=_
 rw [c]
theorem b_shrU{E:Env}{t:TypeId}{x y:Operand}{kd:IntKind}{N:Nat}(h:N<4294967296):bj E .shr t x y (.int .u64 (N:Int)) (.int kd 32)=some (.int .u64 0):=by
 have e:N/Nat.pow 2 (bif Xg 32 (bitsOf .u64)then 32 else bitsOf .u64)=0:=by
  show N/4294967296=0
  exact Nat.div_eq_of_lt h
 show(pP .shr .u64 (.ofNat N) (.ofNat 32)).map _=_
 show some (Value.int .u64 (.ofNat (N/Nat.pow 2 (bif Xg 32 (bitsOf .u64)then 32 else bitsOf .u64))))=_
 rw [e];rfl
end Go.Ab

end
section
namespace Go.Ab
open Go.Proofs
set_option maxRecDepth 10000
def Tryz.F0e:=aj t1<|aj t2<|aj t3<|aj t4<|t33
def Tryz.F0N:=aj t1<|aj t2<|aj t3<|aj t4<|aj t24<|aj t29<|aj Z0<|aj t32<|aj t33<|aj Z1<|aj t189<|Z3
def Tryz.F0f:=aj t1<|aj t2<|aj t3<|aj t4<|aj t29<|Z1
def Tryz.F0O:=aj t1<|aj t2<|aj t3<|aj t4<|aj t33<|t189
def Tryz.F0g:=aj t1<|aj t2<|aj t3<|aj t4<|aj t24<|aj t29<|aj Z0<|aj t32<|aj t33<|aj Z1<|aj t189<|Z3
def Tryz.F0P:=aj t1<|aj t2<|aj t3<|aj t4<|aj t24<|aj t29<|aj Z0<|aj t32<|aj t33<|aj t189<|Z3
theorem nE{h0:Hp}(i:h0.t.Sized h0.n){α:Type}{enc:α->List Value}(j: ∀x,(enc x).length=1){v:Value}{xs:List α}(k:ax h0 1 enc v xs)(t:xs.length<1000000):Ret zj 55 [v] h0 fun r a=>Gr h0 a/\ax a 1 enc r xs/\ ∀c,av r c->h0.n<=c:=by
 have S:=Si i
 rcases k with⟨rfl,rfl⟩|⟨b,o,s,c,rfl,l,m⟩
 . refine ag (n:=8) (rs:=[.tmp 2]) rfl Tryz.e55 rfl rfl rfl (lbt rfl) ?_
   simp only [BS,LB,ae,Nat.reduceLT,Nat.reduceEqDiff,F0e]
   exact⟨S.gr,.inl ⟨rfl,rfl⟩,fun c d=>d.elim⟩
 . refine ag (n:=8) (rs:=[.tmp 2]) rfl Tryz.e55 rfl rfl rfl (lbt rfl) ?_
   simp only [BS,LB,Nat.reduceLT,Nat.reduceEqDiff,F0e]
   refine am (bW (by exact Tryz.t33.1) (by exact Xs) (by decide) (by rfl)) S ?_;clear S;intro h u S f;simp only [LC,aV,bJ,ah,Nat.reduceMul,Nat.reduceAdd,zM,zG,zY,z9]at S
   simp only [BS,LB,Nat.reduceLT,Nat.reduceEqDiff]
   refine dQ (S.cloneSl (enc:=enc) (xs:=[]) Tryz.t33.1 Xs (by decide) Tryz.t33.2.2.2.2.2 (.inr ⟨b,o,s,c,rfl,l,S.old m (fun h=>h)⟩) j (by decide) (by simp only [Xm,zG];omega) (S.row m0)) ?_
   rintro a v ⟨p,g,q,d⟩
   simp only [BS,LB,ae,Nat.reduceLT,Nat.reduceEqDiff]
   refine⟨p.gr,by simpa using q,fun c h=>(d c h).elim (fun e=>by omega) (fun e=>z7 S.fr.n e)⟩
theorem dN{h0:Hp}(d:h0.t.Sized h0.n){p:Value}{a:Gra}{e:Nat}(c:cE h0 e p a):aW zj 54 [p] h0 (.int .i64 a.nodes):=by
 have S:=Si d
 obtain⟨b,g,h,i,j,k,rfl,r,_⟩:=c.ex
 have f:=r.load1 (o:=0) rfl
 refine ag (n:=10) (rs:=[.tmp 2]) rfl Tryz.e54 rfl rfl rfl (lbt rfl) ?_
 simp only [BS,LB,ae,Nat.reduceLT,Nat.reduceEqDiff,F0N,f]
 exact S.gr
theorem oneArc_ok{h0:Hp}(j:h0.t.Sized h0.n){v:Value}{A:List Arc}(f:ax h0 3 cG v A){i:Nat}(k:i<A.length):Ret zj 221 [v,.int .i64 i] h0 fun r l=>Gr h0 l/\r=.tuple #[.agg ⟨cG A[i]⟩,.bool true]:=by
 have S:=Si j
 have m: ¬((i:Int)<0):=by omega
 have p: ¬((A.length:Int)<=(i:Int)):=by omega
 refine ag (n:=19) (rs:=[.cell 4 99,.tmp 5]) rfl Tryz.e221 rfl rfl rfl (lbt rfl) ?_
 simp only [BS,F0f]
 refine am aF S ?_;clear S;intro h q S g
 obtain⟨c,o,a,d⟩:=(f.gr S.gr).ix (kd:=.i64) fU k
 simp only [BS,LB,Nat.reduceLT,Nat.reduceEqDiff,F0f,f.lenq,m,p,a,d]
 refine aH (S.store (i:=0) rfl ?_ ?_ rfl rfl ?_ ono) ?_
 . exact(by exact Tryz.t99.2.1)
 . exact(by intro x e;cases e)
 . exact lbt rfl
 clear S;rintro h ⟨S,s⟩;clear s;simp only [LC,ah,lay,zJ,zK,Nat.reduceAdd]at S
 simp only [BS,ae,cG]
 refine(dC (by decide) (by simp only [aQ,ao,Nat.reduceEqDiff,reduceIte];exact cR Tryz.t99.1 Tryz.t99.2.1 (S.lds (b:=q) (o:=0) (n:=3) m0 (lbt rfl)))).2 ?_
 refine(gw (by decide)).2 (dX.2 ?_)
 exact⟨S.gr,rfl⟩
theorem oneRow_ok{h0:Hp}(d:h0.t.Sized h0.n){m:Nat}{v:Value}{N:Nat}{R:Nat->List Nat}(f:eF h0 m v N R){i:Nat}(a:i<N):Ret zj 197 [v,.int .i64 i] h0 fun r b=>Gr h0 b/\ ∃w,r=.tuple #[w,.bool true]/\ax b 1 cI w (R i):=by
 have S:=Si d
 obtain⟨p,q,rfl,_,g,c,h⟩:=f
 obtain⟨w,e,j,_⟩:=h i a
 have k:=g.load1 e
 have l: ¬((i:Int)<0):=by omega
 have o: ¬((N:Int)<=(i:Int)):=by omega
 refine ag (n:=19) (rs:=[.tmp 4,.tmp 5]) rfl Tryz.e197 rfl rfl rfl (lbt rfl) ?_
 simp only [BS,LB,ae,Nat.reduceLT,Nat.reduceEqDiff,F0O,l,o,a,k]
 exact⟨S.gr,_,rfl,j⟩
theorem pD{h0:Hp}(f:h0.t.Sized h0.n){p:Value}{a:Gra}{j:Nat}(c:cE h0 j p a){i:Nat}(k:i<a.arcs.length):Ret zj 155 [p,.int .i64 i] h0 fun r l=>Gr h0 l/\r=.tuple #[.agg ⟨cG a.arcs[i]⟩,.bool true]:=by
 have S:=Si f
 obtain⟨b,u,w,y,z,A,rfl,r,m,_⟩:=c.ex
 have q:=r.load1 (o:=3) rfl
 refine ag (n:=18) (rs:=[.cell 4 99,.tmp 5]) rfl Tryz.e155 rfl rfl rfl (lbt rfl) ?_
 simp only [BS,F0g]
 refine am aF S ?_;clear S;intro h s S d
 simp only [BS,LB,Nat.reduceLT,Nat.reduceEqDiff,F0g,S.old q (fun h=>h)]
 refine step_ret (oneArc_ok S.ok (m.A.gr S.gr) k) ?_
 rintro v h ⟨g,rfl⟩
 replace S:=S.call g;clear g
 simp only [BS,LB,Nat.reduceLT,Nat.reduceEqDiff,cG]
 refine aH (S.store (i:=0) rfl ?_ ?_ rfl rfl ?_ ono) ?_
 . exact(by exact Tryz.t99.2.1)
 . exact(by intro x e;cases e)
 . exact lbt rfl
 clear S;rintro h ⟨S,t⟩;clear t;simp only [LC,ah,lay,zJ,zK,Nat.reduceAdd]at S
 simp only [BS,LB,ae,Nat.reduceLT,Nat.reduceEqDiff]
 refine(dC (by decide) (by simp only [aQ,ao,Nat.reduceEqDiff,reduceIte];exact cR Tryz.t99.1 Tryz.t99.2.1 (S.lds (b:=s) (o:=0) (n:=3) m0 (lbt rfl)))).2 ?_
 refine(gw (by decide)).2 (dX.2 ?_)
 exact⟨S.gr,rfl⟩
theorem netOut_ok{h0:Hp}(f:h0.t.Sized h0.n){p:Value}{a:Gra}{j:Nat}(c:cE h0 j p a)(k:a.arcs.length<1000){i:Nat}(l:i<a.nodes):Ret zj 115 [p,.int .i64 i] h0 fun r e=>Gr h0 e/\ax e 1 cI r (outs a.arcs Arc.s a.arcs.length i)/\ ∀c,av r c->h0.n<=c:=by
 have S:=Si f
 obtain⟨b,u,x,y,z,A,rfl,r,B,m,C,_⟩:=c.ex
 have q:=r.load1 (o:=4) rfl
 refine ag (n:=20) (rs:=[.tmp 4]) rfl Tryz.e115 rfl rfl rfl (lbt rfl) ?_
 simp only [BS,LB,Nat.reduceLT,Nat.reduceEqDiff,F0P,q]
 refine step_ret (oneRow_ok S.ok m l) ?_
 rintro v h ⟨g,w,rfl,d⟩
 replace S:=S.call g;clear g
 simp only [BS,LB,Nat.reduceLT,Nat.reduceEqDiff]
 have s:=S.fr.n
 have t:=oO a.arcs Arc.s a.arcs.length i
 refine step_ret (nE S.ok jo d (by omega)) ?_;intro v h ⟨g,d,hc⟩;replace S:=S.call g;clear g
 simp only [BS,LB,ae,Nat.reduceLT,Nat.reduceEqDiff]
 exact⟨S.gr,d,fun c h=>z7 s (hc c h)⟩
theorem mul64_ok{h0:Hp}(b:h0.t.Sized h0.n){N:Nat}(i:N<1000):aW zj 269 [.int .u64 1,.int .u64 N] h0 (.tuple #[.int .u64 0,.int .u64 N]):=by
 have S:=Si b
 have c: ∀{t x y},bj zj .and t x y (.int .u64 1) (.int .u64 4294967295)=some (.int .u64 1):=b_andU (N:=1) (by decide)
 have d: ∀{t x y},bj zj .and t x y (.int .u64 0) (.int .u64 4294967295)=some (.int .u64 0):=b_andU (N:=0) (by decide)
 have e: ∀{t x y a},bj zj .shr t x y (.int .u64 1) (.int a 32)=some (.int .u64 0):=b_shrU (N:=1) (by decide)
 have f: ∀{t x y a},bj zj .shr t x y (.int .u64 0) (.int a 32)=some (.int .u64 0):=b_shrU (N:=0) (by decide)
 have g:au .u64 (N:Int)=(N:Int):=wrapUn (by omega) (by omega)
 have h:au .u64 0=0:=rfl
 refine ag (n:=51) (rs:=[.tmp 4,.tmp 5]) rfl Tryz.e269 rfl rfl rfl (lbt rfl) ?_
 simp only [BS,LB,ae,Nat.reduceLT,Nat.reduceEqDiff,c,d,e,f,b_andU (N:=N) (by omega),b_shrU (N:=N) (by omega),Int.one_mul,Int.zero_mul,Int.mul_zero,Int.add_zero,g,h]
 exact S.gr
theorem mul_ok{h0:Hp}(a:h0.t.Sized h0.n){N:Nat}(b:N<1000):aW zj 250 [.int .u64 1,.int .u64 N] h0 (.tuple #[.int .u64 0,.int .u64 N]):=by
 have S:=Si a
 refine ag (n:=30) (rs:=[.tmp 4,.tmp 5]) rfl Tryz.e250 rfl rfl rfl (lbt rfl) ?_
 simp only [BS,LB,Nat.reduceLT,Nat.reduceEqDiff]
 refine ar (mul64_ok S.ok b) ?_;intro h g;replace S:=S.call g;clear g
 simp only [BS,LB,ae,Nat.reduceLT,Nat.reduceEqDiff]
 exact S.gr
end Go.Ab
end
section
namespace Go.Ab
theorem slice_lo{E:Env}{t e:TypeId}{b n N:Nat}{kd:IntKind}(c:E.und t=some (.slice e))(d:E.sz e=some 1)(f:n<N):d8 E t (.slice (some ⟨b,0,none⟩) N N) (some (.int kd (n:Int))) none none=some (.slice (some ⟨b,n,none⟩) (N-n) (N-n)):=by
 have a: ∀n:Nat,fo (n:Int)=some n:=fun n=>rfl
 have g:zX N n=false:=by
  cases h:zX N n with
  |false=>rfl
  |true=>have:=Xq h;omega
 simp only [d8,c,dV,dU,a,zx (Nat.le_of_lt f),cond_true,d,zC,cond_false,g,dW,zY,zG]
theorem slice_hi0{E:Env}{t e:TypeId}{b n N k:Nat}{kd:IntKind}(c:E.und t=some (.slice e))(d:E.sz e=some k)(f:n<=N):d8 E t (.slice (some ⟨b,0,none⟩) N N) none (some (.int kd (n:Int))) none=some (.slice (some ⟨b,0,none⟩) n N):=by
 have a: ∀n:Nat,fo (n:Int)=some n:=fun n=>rfl
 simp only [d8,c,dV,dU,a,zx f,cond_true,d,zC,cond_false,dW,zM,Nat.add_zero,Nat.sub_zero]
 cases zX N 0<;>rfl
section
variable{M:Nat->Prop}{h0 h:Hp}{L:List (Nat×Ob)}{G:List GL}{E:Env}{t e:TypeId}
theorem St.copyO(S:St M h0 h L G){i b o len cap f o2 m n:Nat}{p c:Option Nat}{cs l:List Value}(g:L[i]? =some (b,.row cs 1))(q:E.und t=some (.slice e))(r:E.sz e=some 1)(v:0<dR m len)(j:h.load f o2 (dR m len*1)=some l)(d:o+l.length<=cs.length)(hf:l.all iw=true){ts:List TypeId}:
 ∃k w,copyV E h (t::ts) (.slice (some ⟨b,o,p⟩) len cap) (.slice (some ⟨f,o2,c⟩) m n)=some (k,w)/\w=.int .i64 (dR m len:Nat)/\St M h0 k (L.set i (b,.row (lay cs o l) 1)) G:=by
 obtain⟨y,s,u⟩:=(S.row (zL g)).store S.ok ono (o:=o) (vs:=l) d hf
 have a:=load_len j
 refine⟨h.put b y,_,?_,rfl,S.put g u⟩
 simp only [copyV,q,r,j]
 cases l with
 |nil=>simp at a;omega
 |cons x z=>simp only [s];rfl
end
theorem nQ{a b:Nat}(h:a<=b):dR a b=a:=by unfold dR;rw [zx h];rfl
theorem nmin_ge{a b:Nat}(h:b<=a):dR a b=b:=by
 unfold dR
 cases c:Xg a b with
 |false=>rfl
 |true=>have:=lbt c;show a=b;omega
theorem lay_rep{X Z:Value}{n c k:Nat}(e:c<=k):lay (zT n X++zT k Z) n (zT c X)=zT (n+c) X++zT (k-c) Z:=by
 refine zQ fun j=>?_
 rw [ic (by simp;omega),Xd,Xf,Xf,Xd,Xd,zH,zH,zH,zH,zH]
 by_cases a:j<n
 . rw [if_neg (by omega),if_pos a,if_pos a,if_pos (by omega),if_pos (by omega)]
 . by_cases b:j<n+c
   . rw [if_pos (by omega),if_pos (by omega),if_pos b,if_pos b]
   . rw [if_neg (by omega),if_neg a,if_neg b]
     by_cases d:j-n<k
     . rw [if_pos d,if_pos (by omega)]
     . rw [if_neg d,if_neg (by omega)]
theorem xa(z:Value): ∀n,aV [z] n=zT n z
 |0=>rfl
 |n+1=>by simp [aV,xa z n,List.replicate_succ]
end Go.Ab

end
section
namespace Go.Ab
section
variable{M:Nat->Prop}{h0 h h':Hp}{L L':List (Nat×Ob)}{G G':List GL}{Fh:List Nat}
theorem St.stepF(S:St M h0 h L G)(f:Mo (· ∈Fh) h h')(b: ∀c∈Fh,(M c\/h0.n<=c)/\c∉keys L G):St M h0 h' L G:=
 S.step f (fun c a=>(b c a).1) (fun c a d=>(b c d).2 a)
theorem St.permL(S:St M h0 h L G)(p:L'.Perm L):St M h0 h L' G:=
 ⟨S.fr,fun x a=>S.own x (p.mem_iff.1 a),S.gown,by
  have:(keys L' G).Perm (keys L G):=(p.map zo).append_right _
  exact this.nodup_iff.2 S.apart⟩
end
theorem St.mono{M M':Nat->Prop}{h0 h:Hp}{L:List (Nat×Ob)}{G:List GL}(S:St M h0 h L G)(c: ∀b,M b->M' b):St M' h0 h L G:=
 ⟨S.fr.mono c,fun p a=>⟨(S.own p a).1.imp (fun h=>h) (c _),(S.own p a).2⟩,fun p a=>⟨(S.gown p a).1,fun b d=>((S.gown p a).2 b d).imp (fun h=>h) (c _)⟩,S.apart⟩
theorem Dj.exm{B:List Arc}{s N:Nat}{O:List Nat}{D:Nat->Nat}{K:Nat->Option Int}{b ex':Arc->Prop}(d:Dj B s N O D K b)(h: ∀a∈B,b a->ex' a):Dj B s N O D K ex':=
 ⟨d.i1,d.i2,d.i2f,d.i3,fun a c e f=>d.i4 a c e (fun g=>f (h a c g)),d.i5,d.nd,d.lt⟩
end Go.Ab

end
section
namespace Go.Ab
open Go.Proofs
set_option maxRecDepth 10000
def Tryz.Fa:=aj t1<|aj t2<|aj t3<|aj t4<|aj t5<|aj t6<|aj t24<|aj t32<|aj t33<|aj t45<|aj t48<|aj t74<|aj Z7<|aj Z3<|aj t196<|aj t217<|aj t237<|aj t275<|aj Z13<|aj Z6<|Z8
def labC(N:Nat)(L:Nat->Nat):List Value:=(zV N).map fun v=>.int .i64 (L v:Nat)
def byI:List Nat->Int
 | []=> -1
 |a::_=>(a:Nat)
def byC(N:Nat)(P:Nat->List Nat):List Value:=(zV N).map fun v=>.int .i64 (byI (P v))
def clC(N:Nat)(O:List Nat):List Value:=(zV N).map fun v=>.bool (decide (v∈O))
theorem qj{N v:Nat}{L:Nat->Nat}(h:v<N):(labC N L)[v]? =some (.int .i64 (L v:Nat)):=js (F:=fun v=>Value.int .i64 ((L v:Nat):Int)) h
theorem byC_at{N v:Nat}{P:Nat->List Nat}(h:v<N):(byC N P)[v]? =some (.int .i64 (byI (P v))):=js (F:=fun v=>Value.int .i64 (byI (P v))) h
theorem clC_at{N v:Nat}{O:List Nat}(h:v<N):(clC N O)[v]? =some (.bool (decide (v∈O))):=js (F:=fun v=>Value.bool (decide (v∈O))) h
theorem vU{N:Nat}{L:Nat->Nat}:(labC N L).length=N:=by simp [labC]
theorem byC_len{N:Nat}{P:Nat->List Nat}:(byC N P).length=N:=by simp [byC]
theorem clC_len{N:Nat}{O:List Nat}:(clC N O).length=N:=by simp [clC]
theorem labC_set{N v x:Nat}{L:Nat->Nat}:(labC N L).set v (.int .i64 (x:Nat))=labC N (fg L v x):=by
 have:=kI (N:=N) (k:=v) (F:=fun v=>Value.int .i64 ((L v:Nat):Int)) (F':=fun u=>Value.int .i64 ((fg L v x u:Nat):Int)) (fun i _ a=>by simp [fg,a])
 unfold labC
 rw [<-this];simp [fg]
theorem byC_set{N v:Nat}{P:Nat->List Nat}{p:List Nat}:(byC N P).set v (.int .i64 (byI p))=byC N (je P v p):=by
 have:=kI (N:=N) (k:=v) (F:=fun v=>Value.int .i64 (byI (P v))) (F':=fun u=>Value.int .i64 (byI (je P v p u))) (fun i _ a=>by simp [je,a])
 unfold byC
 rw [<-this];simp [je]
theorem clC_set{N v:Nat}{O:List Nat}:(clC N O).set v (.bool true)=clC N (O++[v]):=by
 have:=kI (N:=N) (k:=v) (F:=fun v=>Value.bool (decide (v∈O))) (F':=fun u=>Value.bool (decide (u∈O++[v]))) (fun i _ a=>by simp [a])
 unfold clC
 rw [<-this];simp
def srL(br c d e N:Nat)(pn p a b vE:Value)(σ:SS):List (Nat×Ob):=
 [(br,.row [pn,p,.slice (some ⟨c,0,none⟩) N N,.slice (some ⟨d,0,none⟩) N N,.slice (some ⟨e,0,none⟩) N N,a,b,vE] 1),(c,.row (labC N σ.L) 1),(d,.row (byC N σ.P) 1),(e,.row (clC N σ.O) 1)]
def srG(vE:Value)(σ:SS):List GL:=[(vE,4,σ.ev.flatMap fT)]
def eA(h:Hp)(B:List Nat)(br:Nat)(pn a b:Value)(N:Nat)(σ:SS):Prop:=
 ∃e f g p F d,B=keys (srL br e f g N pn (ptrTo p) a b d σ) (srG d σ)++F/\(∀q∈srL br e f g N pn (ptrTo p) a b d σ,Has h q.1 q.2)/\dz h (d,4,σ.ev.flatMap fT)/\(keys (srL br e f g N pn (ptrTo p) a b d σ) (srG d σ)).Nodup/\cF h F (ptrTo p) N σ.K/\ ∀c∈F,c∉keys (srL br e f g N pn (ptrTo p) a b d σ) (srG d σ)
theorem St.ofHas{M:Nat->Prop}{h:Hp}{L:List (Nat×Ob)}{G:List GL}(e:h.t.Sized h.n)(f: ∀q∈L,Has h q.1 q.2)(g: ∀p∈G,dz h p)(i:(keys L G).Nodup)(d: ∀c∈keys L G,M c):St M h h L G:=
 ⟨Mo.refl e,fun p a=>⟨.inr (d _ (gW a)),f p a⟩,fun p a=>⟨g p a,fun b j=>.inr (d _ (eQ a j))⟩,i⟩
theorem eA.mo{M:Nat->Prop}{h f:Hp}{B:List Nat}{br N:Nat}{pn a c:Value}{σ:SS}(r:eA h B br pn a c N σ)(g:Mo M h f)(e: ∀b∈B,¬M b):eA f B br pn a c N σ:=by
 obtain⟨l,m,n,p,F,i,rfl,o,j,s,t,u⟩:=r
 refine⟨l,m,n,p,F,i,rfl,fun q k=>g.has (o q k) (e _ (zl _ (gW k))),j.of_get fun b d=>g.get b (j.lt g.ok0 d) (e b (zl _ (eQ (p:=(i,4,σ.ev.flatMap fT)) m0 d))),s,t.mo g (fun b d=>e b (zp _ d)),u⟩
theorem eA.gr{h c:Hp}{B:List Nat}{br N:Nat}{pn a b:Value}{σ:SS}(r:eA h B br pn a b N σ)(g:Gr h c):eA c B br pn a b N σ:=r.mo (M:=NoM) g.fr (fun _ _ h=>h)
theorem eA.lt{h:Hp}(e:h.t.Sized h.n){B:List Nat}{br N:Nat}{pn b d:Value}{σ:SS}(r:eA h B br pn b d N σ): ∀c∈B,c<h.n:=by
 obtain⟨l,m,n,p,F,o,rfl,f,g,i,j,q⟩:=r
 intro c a
 rcases List.mem_append.1 a with a|a
 . exact(St.ofHas (M:=fun _=>True) e f (fun p k=>by cases k with|head=>exact g|tail _ h=>cases h) i (fun _ _=>trivial)).key_lt a
 . exact j.lt e c a
theorem Gr.mo'{a h b:Hp}{B:List Nat}(g:Gr a h)(f:Mo (· ∈B) h b)(hB: ∀c∈B,a.n<=c):Gr a b:=((g.fr (M:=NoM)).trans f (fun i d=>.inr (hB i d))).gr
def PiF(E:Env)(a:Hp)(g:FuncId)(b N:Nat)(pi:Nat->Int):Prop:= ∀h,Gr a h-> ∀v,v<N->aW E g [.int .i64 (v:Nat),ptrTo b] h (.int .i64 (pi v))
def AlF(E:Env)(b:Hp)(g:FuncId)(c n:Nat)(d:Nat->Bool):Prop:= ∀h,Gr b h-> ∀a,a<n->aW E g [.int .i64 (a:Nat),ptrTo c] h (.bool (d a))
theorem tO {Y h0:Hp} (gq:Gr Y h0) {B:List Nat} {br N w v lab:Nat} {p:List Nat} {x:FuncId} {pn f:Value} {σ:SS} {pi:Nat->Int} (R:eA h0 B br pn f (.func (.func x) #[] #[ptrTo w]) N σ) (aa:PiF zj Y x w N pi) (hN:N<=12) (j:v<N) (hl:lab<=12*co)
 (hp: -(FAR:Int)<=pi v) (hk: ∀k,σ.K v=some k->k=σ.L v+pi v):
 Ret zj 217 [ptrTo br,.int .i64 (v:Nat),.int .i64 (lab:Nat),.int .i64 (byI p)] h0 fun _ y=>Mo (· ∈B) h0 y/\ ∃D,eA y D br pn f (.func (.func x) #[] #[ptrTo w]) N (dH pi σ v lab p)/\ ∀c∈D,c∈B\/h0.n<=c:=by
 have ok:=gq.ok
 have R0:=R
 obtain⟨s,u,z,E,F,t,rfl,hL,hG,nd,H,Z⟩:=R
 have S:=St.ofHas (M:=fun c=>c∈keys (srL br s u z N pn (ptrTo E) f (.func (.func x) #[] #[ptrTo w]) t σ) (srG t σ)++F) ok hL (fun p hp=>by cases hp with|head=>exact hG|tail _ h=>cases h) nd (fun c a=>zl _ a)
 have fr:=nH
 have wm:=oe
 have l:dH pi σ v lab p=σ-> ∀h,Gr h0 h->Mo (· ∈keys (srL br s u z N pn (ptrTo E) f (.func (.func x) #[] #[ptrTo w]) t σ) (srG t σ)++F) h0 h/\ ∃D,eA h D br pn f (.func (.func x) #[] #[ptrTo w]) N (dH pi σ v lab p)/\ ∀c∈D,c∈keys (srL br s u z N pn (ptrTo E) f (.func (.func x) #[] #[ptrTo w]) t σ) (srG t σ)++F\/h0.n<=c:=
  fun e h g=>⟨g.fr,_,by rw [e];exact R0.gr g,fun c a=>.inl a⟩
 generalize G:keys (srL br s u z N pn (ptrTo E) f (.func (.func x) #[] #[ptrTo w]) t σ) (srG t σ)++F=BB at S l
 have U: ∀c∈F,c∈BB\/h0.n<=c:=fun c a=>.inl (by rw [<-G];exact zp _ a)
 unfold srL srG at S
 have lF:=H.lt ok
 have ll:=fun {b} hb=>S.key_lt (b:=b) hb
 refine ag (n:=86) (rs:=[]) rfl Tryz.e217 rfl rfl rfl (lbt rfl) ?_
 simp only [BS,LB,Nat.reduceLT,Nat.reduceEqDiff,Fa,S.ld (b:=br) (o:=6) m0 rfl]
 refine ar (aa _ gq v j) ?_;intro h g;replace S:=S.call g;replace H:=H.gr g
 simp only [BS,LB,Nat.reduceLT,Nat.reduceEqDiff,Fa,S.ld (b:=br) (o:=1) m0 rfl]
 refine ar (yi S.ok H) ?_;intro y g';replace S:=S.call g';replace H:=H.gr g';replace g:=g.trans g';clear g' h
 have n0:=g.n
 have I:=(S.row (b:=z) m3).load1 (clC_at (O:=σ.O) j)
 have lL:=(S.row (b:=s) m1).load1 (qj (L:=σ.L) j)
 by_cases hO:v∈σ.O
 . have P:decide (v∈σ.O)=true:=decide_eq_true hO
   simp only [BS,LB,Nat.reduceLT,Nat.reduceEqDiff,Fa,j,I,P,S.ld (b:=br) (o:=4) m0 rfl,S.ld (b:=br) (o:=2) m0 rfl]
   exact l (by unfold dH;rw [if_pos (.inl hO)]) _ g
 . have P:decide (v∈σ.O)=false:=decide_eq_false hO
   by_cases V:(FAR:Int)<=pi v
   . have W:(72057594037927936:Int)<=pi v:=by omega
     simp only [BS,LB,Nat.reduceLT,Nat.reduceEqDiff,Fa,j,I,P,W,S.ld (b:=br) (o:=4) m0 rfl,S.ld (b:=br) (o:=2) m0 rfl]
     exact l (by unfold dH;rw [if_pos (.inr (.inl V))]) _ g
   . have W: ¬(72057594037927936:Int)<=pi v:=by omega
     have wl:au .i64 ((lab:Int)+pi v)=(lab:Int)+pi v:=by rw [wrap64]<;>omega
     have X: ¬((σ.K v).isSome=true/\σ.L v<=lab)-> ∀(y:Hp) (m:List Nat),St (· ∈BB) h0 y [(br,.row [pn,ptrTo E,.slice (some ⟨s,0,none⟩) N N,.slice (some ⟨u,0,none⟩) N N,.slice (some ⟨z,0,none⟩) N N,f,.func (.func x) #[] #[ptrTo w],t] 1),(s,.row ((labC N σ.L).set v (.int .i64 (lab:Nat))) 1),(u,.row ((byC N σ.P).set v (.int .i64 (byI p))) 1),(z,.row (clC N σ.O) 1)] [(t,4,σ.ev.flatMap fT)]->
      cF y m (ptrTo E) N (dL σ.K v (some ((lab:Int)+pi v)))->(∀c∈m,c∈F\/h0.n<=c)->Mo (· ∈BB) h0 y/\ ∃D,eA y D br pn f (.func (.func x) #[] #[ptrTo w]) N (dH pi σ v lab p)/\ ∀c∈D,c∈BB\/h0.n<=c:=by
      intro a y m T H' d
      rw [labC_set,byC_set]at T
      refine⟨T.fr,keys (srL br s u z N pn (ptrTo E) f (.func (.func x) #[] #[ptrTo w]) t σ) (srG t σ)++m,?_,fun c a=>?_⟩
      . unfold dH
        rw [if_neg (by simp only [not_or];exact⟨hO,V,a⟩)]
        refine⟨s,u,z,E,m,t,rfl,fun q Y=>(T.own q Y).2,(T.gown _ m0).1,T.apart,H',fun c a hm=>?_⟩
        rcases d c a with A|A
        . exact Z c A hm
        . have:=ll (b:=c) hm;omega
      . rcases List.mem_append.1 a with a|a
        . exact .inl (by rw [<-G];exact zl _ a)
        . rcases d c a with A|A
          . exact .inl (by rw [<-G];exact zp _ A)
          . exact .inr A
     have C: ∀m:List Nat,(∀c∈m,c∈F\/h0.n<=c)-> ∀c∈m,¬(c=s)/\ ¬(c=u):=fun m h c a=>by
      rcases h c a with A|A
      . have:=Z c A
        simp [srL,keys]at this
        exact⟨this.2.1,this.2.2.1⟩
      . have h2:=ll (b:=s) (by simp [keys])
        have h3:=ll (b:=u) (by simp [keys])
        exact⟨fun e=>by omega,fun e=>by omega⟩
     have ap:=S.apart
     have n1:br≠s:=fun e=>by subst e;simp [keys]at ap
     have n2:br≠u:=fun e=>by subst e;simp [keys]at ap
     have n3:s≠u:=fun e=>by subst e;simp [keys]at ap
     clear ap
     cases Q:σ.K v with
     | none=>
       simp only [BS,LB,Nat.reduceLT,Nat.reduceEqDiff,Fa,j,I,P,W,Xb,zC,wl,S.ld (b:=br) (o:=4) m0 rfl,S.ld (b:=br) (o:=2) m0 rfl,S.ld (b:=br) (o:=1) m0 rfl]
       refine step_ret (xy S.ok H j (by omega) Q) ?_
       rintro r h2 ⟨f2,m,H2,d⟩
       replace S:=S.stepF f2 (fun c a=>⟨U c a,Z c a⟩)
       replace d: ∀c∈m,c∈F\/h0.n<=c:=fun c a=>(d c a).imp (fun h=>h) (fun h=>z7 n0 h)
       clear I lL
       simp only [BS]
       refine aE (aK rfl) (q:=0) (ps:=[]) (by kernel_rfl) ?_
       simp only [BS,LB,cls,Nat.reduceLT,Nat.reduceEqDiff,Nat.reduceAdd,Nat.reducePow,Nat.reduceDiv,Nat.reduceMod,Nat.reduceLeDiff,Fa,j,S.ld (b:=br) (o:=2) m0 rfl,S.ld (b:=br) (o:=3) m0 rfl]
       refine cU (aC S (i:=1) rfl Tryz.t2.2.2.1 bI (by rw [vU];exact j) ono) ?_
       clear S;rintro h3 ⟨S,J⟩
       simp only [LC]at S
       simp only [BS,LB,cls,Nat.reduceLT,Nat.reduceEqDiff,Nat.reduceAdd,Nat.reducePow,Nat.reduceDiv,Nat.reduceMod,Nat.reduceLeDiff,Fa,j]
       refine cU (aC S (i:=2) rfl Tryz.t3.2.2.1 bI (by rw [byC_len];exact j) ono) ?_
       clear S;rintro h4 ⟨S,K⟩
       simp only [LC]at S
       simp only [BS,LB,Nat.reduceAdd]
       exact X (by rw [Q];simp) _ m S ((H2.mo J (fun c a=>(C m d c a).1)).mo K (fun c a=>(C m d c a).2)) d
     | some k=>
       have ek:=hk k Q
       by_cases hle:σ.L v<=lab
       . have c2:(σ.L v:Int)<=(lab:Int):=by omega
         simp only [BS,LB,Nat.reduceLT,Nat.reduceEqDiff,Fa,j,I,P,lL,W,Xc,c2,S.ld (b:=br) (o:=4) m0 rfl,S.ld (b:=br) (o:=2) m0 rfl]
         exact l (by unfold dH;rw [if_pos (.inr (.inr ⟨by rw [Q];rfl,hle⟩))]) _ g
       . have c2: ¬(σ.L v:Int)<=(lab:Int):=by omega
         simp only [BS,LB,Nat.reduceLT,Nat.reduceEqDiff,Fa,j,I,P,lL,W,Xc,c2,wl,S.ld (b:=br) (o:=4) m0 rfl,S.ld (b:=br) (o:=2) m0 rfl,S.ld (b:=br) (o:=1) m0 rfl]
         refine step_ret (xj S.ok H (by omega) Q (k:=(lab:Int)+pi v) (by omega)) ?_
         rintro r h2 ⟨f2,H2⟩
         replace S:=S.stepF f2 (fun c a=>⟨U c a,Z c a⟩)
         have d: ∀c∈F,c∈F\/h0.n<=c:=fun c a=>.inl a
         clear I lL
         simp only [BS]
         refine aE (aK rfl) (q:=0) (ps:=[]) (by kernel_rfl) ?_
         simp only [BS,LB,cls,Nat.reduceLT,Nat.reduceEqDiff,Nat.reduceAdd,Nat.reducePow,Nat.reduceDiv,Nat.reduceMod,Nat.reduceLeDiff,Fa,j,S.ld (b:=br) (o:=2) m0 rfl,S.ld (b:=br) (o:=3) m0 rfl]
         refine cU (aC S (i:=1) rfl Tryz.t2.2.2.1 bI (by rw [vU];exact j) ono) ?_
         clear S;rintro h3 ⟨S,J⟩
         simp only [LC]at S
         simp only [BS,LB,cls,Nat.reduceLT,Nat.reduceEqDiff,Nat.reduceAdd,Nat.reducePow,Nat.reduceDiv,Nat.reduceMod,Nat.reduceLeDiff,Fa,j]
         refine cU (aC S (i:=2) rfl Tryz.t3.2.2.1 bI (by rw [byC_len];exact j) ono) ?_
         clear S;rintro h4 ⟨S,K⟩
         simp only [LC]at S
         simp only [BS,LB,Nat.reduceAdd]
         exact X (by rw [Q];simp;omega) _ F S ((H2.mo J (fun c a=>(C F d c a).1)).mo K (fun c a=>(C F d c a).2)) d
def Tryz.Fi:=aj t1<|aj t2<|aj t3<|aj t4<|aj t5<|aj t6<|aj Z2<|aj t24<|aj Z0<|aj t32<|aj t33<|aj t48<|aj t74<|aj Z7<|aj Z1<|aj t189<|aj Z3<|aj t196<|aj t217<|aj t237<|aj t275<|aj Z13<|Z8
theorem eA.close{M:Nat->Prop}{h0 h:Hp}{br e f g d N:Nat}{F:List Nat}{pn a b vE:Value}{σ:SS}(S:St M h0 h (srL br e f g N pn (ptrTo d) a b vE σ) (srG vE σ))(H:cF h F (ptrTo d) N σ.K)(i: ∀c∈F,c∉keys (srL br e f g N pn (ptrTo d) a b vE σ) (srG vE σ)):
 eA h (keys (srL br e f g N pn (ptrTo d) a b vE σ) (srG vE σ)++F) br pn a b N σ:=
 ⟨e,f,g,d,F,vE,rfl,fun q j=>(S.own q j).2,(S.gown _ m0).1,S.apart,H,i⟩
theorem eA.open{h:Hp}(i:h.t.Sized h.n){B:List Nat}{br N:Nat}{pn a b:Value}{σ:SS}(r:eA h B br pn a b N σ): ∃e f g d F vE,B=keys (srL br e f g N pn (ptrTo d) a b vE σ) (srG vE σ)++F/\St (· ∈B) h h (srL br e f g N pn (ptrTo d) a b vE σ) (srG vE σ)/\cF h F (ptrTo d) N σ.K/\ ∀c∈F,c∉keys (srL br e f g N pn (ptrTo d) a b vE σ) (srG vE σ):=by
 obtain⟨e,f,g,d,F,vE,rfl,j,k,l,m,n⟩:=r
 exact⟨e,f,g,d,F,vE,rfl,St.ofHas i j (fun p o=>by cases o with|head=>exact k|tail _ h=>cases h) l (fun c q=>zl _ q),m,n⟩
theorem wX(pi:Nat->Int)(σ:SS)(v lab:Nat)(p:List Nat):(dH pi σ v lab p).ev=σ.ev:=by
 unfold dH;split<;>rfl
theorem wI(A:List Arc)(b:Nat->Bool)(pi:Nat->Int)(v:Nat)(σ:SS)(a:Nat):(scan1 A b pi v σ a).ev.length<=σ.ev.length+1:=by
 unfold scan1
 split
 . rw [wX];simp [evS]
 . omega
theorem sscan_ok {E h0:Hp} (bm:E.t.Sized E.n) (gq:Gr E h0) {d:Gra} (y:Good d) {nb G:Nat} (hn:cE E nb (ptrTo G) d) {B:List Nat} {br u v s:Nat} {N O:FuncId} {σ:SS} {z:Nat->Bool} {pi:Nat->Int} (R:eA h0 B br (ptrTo G) (.func (.func N) #[] #[ptrTo u]) (.func (.func O) #[] #[ptrTo u]) d.nodes σ) (hB: ∀c∈B,E.n<=c) (a1:AlF zj E N u d.arcs.length z) (a2:PiF zj E O u d.nodes pi) (hp: ∀v,v<d.nodes-> -(FAR:Int)<=pi v)
 (hv:v<d.nodes) (sv:Sv d.arcs d.nodes s z pi σ) (rm:Room σ v) (he:σ.ev.length<=10000):
 Ret zj 220 [ptrTo br,.int .i64 (v:Nat)] h0 fun _ h'=>Mo (· ∈B) h0 h'/\ ∃A,eA h' A br (ptrTo G) (.func (.func N) #[] #[ptrTo u]) (.func (.func O) #[] #[ptrTo u]) d.nodes (jQ d.arcs z pi v σ)/\ ∀c∈A,c∈B\/h0.n<=c:=by
 have ok:=gq.ok
 have n1:=y.n1
 have n2:=y.n2
 have wm:=oe
 have hA: ∀a∈d.arcs,a.t<d.nodes/\a.w<=co:=fun a I=>⟨(y.arcs a I).2.1,(y.arcs a I).2.2⟩
 have l0:h0.load br 0 1=some [ptrTo G]:=by
  obtain⟨V,X,Y,Z,F,vE,rfl,D,_⟩:=R
  exact Row.load1 (show Row h0 br _ 1 from D _ m0) (o:=0) rfl
 have S:=Si ok
 refine ag (n:=62) (rs:=[]) rfl Tryz.e220 rfl rfl rfl (lbt rfl) ?_
 simp only [BS,LB,Nat.reduceLT,Nat.reduceEqDiff,Fi,l0]
 refine step_ret (netOut_ok S.ok (hn.gr gq) (by have:=y.many;omega) hv) ?_
 rintro vl D ⟨g,sl,r⟩
 have lB:=R.lt ok
 have R1:=R.gr g
 have a3:=g.ok
 have ol:=oO d.arcs Arc.s d.arcs.length v
 have bf:=y.many
 have bn:=g.n
 simp only [BS,LB,Nat.reduceLT,Nat.reduceEqDiff,Fi,sl.lenq]
 refine bg (fun(i:Nat) W h=>i<=(outs d.arcs Arc.s d.arcs.length v).length/\ ∃A,Mo (· ∈B) D h/\eA h A br (ptrTo G) (.func (.func N) #[] #[ptrTo u]) (.func (.func O) #[] #[ptrTo u]) d.nodes (((outs d.arcs Arc.s d.arcs.length v).take i).foldl (scan1 d.arcs z pi v) σ)/\(∀c∈A,c∈B\/D.n<=c)/\
  W 0=ptrTo br/\W 1=.int .i64 (v:Nat)/\W 13=vl/\W 14=.int .i64 ((outs d.arcs Arc.s d.arcs.length v).length:Nat)/\W 15=.int .i64 i) (fun i=>(outs d.arcs Arc.s d.arcs.length v).length-i) ?_ 0 _ _ ?_
 . clear S l0
   intro i ih W hS ⟨hi,A,f,R',hB',r0,r1,r13,r14,r15⟩
   by_cases hlt:i<(outs d.arcs Arc.s d.arcs.length v).length
   . have a4: ∀c∈A,E.n<=c:=fun c r=>(hB' c r).elim (hB c) (fun h=>by have:=gq.n;omega)
     have gh:Gr E hS:=(gq.trans g).mo' f hB
     have a5:=sl.mo f (fun b hb P=>by have:=r b hb;have:=lB b P;omega)
     obtain⟨c,o,aa,ac⟩:=a5.ix (kd:=.i64) jo hlt
     have P:=j9.1 (zW hlt)
     have w:au .i64 ((i:Int)+1)=((i+1:Nat):Int):=by rw [wrap64]<;>omega
     have a6: ∀a∈(outs d.arcs Arc.s d.arcs.length v).take i,a<d.arcs.length/\(d.arcs.getD a default).s=v:=fun a I=>j9.1 (Xw I)
     obtain⟨T,ki⟩:=Sv.scanL hA _ sv rm a6
     have ad:=rm.keeps ki
     have a7:(((outs d.arcs Arc.s d.arcs.length v).take i).foldl (scan1 d.arcs z pi v) σ).ev.length<=10000+i:=by
      have: ∀(l:List Nat) (σ:SS),(l.foldl (scan1 d.arcs z pi v) σ).ev.length<=σ.ev.length+l.length:=by
       intro l
       induction l with
       |nil=>intro σ;simp
       |cons a l ih=>intro σ;have D:=ih (scan1 d.arcs z pi v σ a);have h2:=wI d.arcs z pi v σ a;simp only [List.foldl_cons,Xl];omega
      have D:=this ((outs d.arcs Arc.s d.arcs.length v).take i) σ
      rw [zI]at D
      omega
     have tk:(outs d.arcs Arc.s d.arcs.length v).take (i+1)=(outs d.arcs Arc.s d.arcs.length v).take i++[(outs d.arcs Arc.s d.arcs.length v)[i]]:=by rw [List.take_add_one,zn hlt];rfl
     have J:((outs d.arcs Arc.s d.arcs.length v).take (i+1)).foldl (scan1 d.arcs z pi v) σ=scan1 d.arcs z pi v (((outs d.arcs Arc.s d.arcs.length v).take i).foldl (scan1 d.arcs z pi v) σ) (outs d.arcs Arc.s d.arcs.length v)[i]:=by rw [tk,List.foldl_append];rfl
     generalize(((outs d.arcs Arc.s d.arcs.length v).take i).foldl (scan1 d.arcs z pi v) σ)=t at R' T ki ad a7 J
     generalize(outs d.arcs Arc.s d.arcs.length v)[i]=a at P ac J
     obtain⟨I,bo⟩:=P
     obtain⟨V,X,Y,Z,F,vE,U,S,H,hF⟩:=R'.open f.ok
     have bq:=R'.lt f.ok
     have K: ∀c∈keys (srL br V X Y d.nodes (ptrTo G) (ptrTo Z) (.func (.func N) #[] #[ptrTo u]) (.func (.func O) #[] #[ptrTo u]) vE t) (srG vE t),c∈A:=fun c r=>by rw [U];exact zl _ r
     have bc: ∀c∈F,c∈A:=fun c r=>by rw [U];exact zp _ r
     have lF:=H.lt f.ok
     replace S:=S.base
     generalize bt:keys (srL br V X Y d.nodes (ptrTo G) (ptrTo Z) (.func (.func N) #[] #[ptrTo u]) (.func (.func O) #[] #[ptrTo u]) vE t) (srG vE t)=KK at S K hF U
     unfold srL srG at S
     simp only [BS,LB,Nat.reduceLT,Nat.reduceEqDiff,Fi,r0,r13,r14,r15,aI,hlt,aa,ac,cI,S.ld (b:=br) (o:=5) m0 rfl]
     refine ar (a1 _ gh a I) ?_;intro h' g';replace S:=S.call g'
     have bv:=g'.n
     cases Q:z a with
     | false=>
       simp only [BS,LB,Nat.reduceLT,Nat.reduceEqDiff,r15,w]
       refine ih (i+1) _ _ (by omega) ⟨by omega,A,f.trans (M':=NoM) g'.fr (fun _ h=>h.elim),?_,hB',by simp [ab,r0,ao],by simp [ab,r1],by simp [ab,r13],by simp [ab,r14],by simp [ab]⟩
       rw [J]
       unfold scan1
       rw [Q,if_neg Bool.false_ne_true]
       exact R'.gr g'
     | true=>
       have bx:Fl vE:=(S.gown _ m0).1.fl
       simp only [BS,LB,Nat.reduceLT,Nat.reduceEqDiff,Nat.reduceAdd,Fi,r0,S.ld (b:=br) (o:=7) m0 rfl]
       refine am (bW (by exact Tryz.t48.1) (by exact Tryz.e94E) (by decide) (by rfl)) S ?_;clear S;intro h bs S bh;simp only [LC,aV,bJ,ah,Nat.reduceMul,Nat.reduceAdd,zM,zG,zY,z9]at S
       simp only [BS,LB,Nat.reduceLT,Nat.reduceEqDiff]
       have af:aL h 4 (.slice (some ⟨bs,0,none⟩) 1 1)=some (1,fT ⟨1,a,0⟩):=by simp only [aL];rw [S.lds (b:=bs) (o:=0) (n:=1*4) m0 (lbt rfl)];rfl
       replace S:=S.drop1
       refine dQ (S.grow (j:=0) (m:=1) (new:=fT ⟨1,a,0⟩) rfl Tryz.t48.1 Tryz.e94E (by decide) Tryz.t48.2.2.2.2.2 af rfl (by decide) rfl (by rw [aU rJ];show(_+4)*_<=_;omega)) ?_
       clear S af;rintro h2 C S
       simp only [LC]at S
       have ai:Fl C:=(S.gown _ m0).1.fl
       simp only [BS,LB,Nat.reduceLT,Nat.reduceEqDiff,Fi]
       refine aH (aC S (i:=0) rfl Tryz.t48.2.2.1 ai (zt (lbt rfl)) ono) ?_
       clear S;rintro h3 ⟨S,_⟩
       simp only [LC]at S
       have eE:(t.ev++[(⟨1,a,0⟩:Ev)]).flatMap fT=t.ev.flatMap fT++fT ⟨1,a,0⟩:=by rw [Xy];simp
       rw [<-eE]at S
       simp only [BS,LB,Nat.reduceLT,Nat.reduceEqDiff,Fi,r0,S.ld (b:=br) (o:=0) m0 rfl]
       have ak: ∀c∈KK,E.n<=c:=fun c r=>a4 c (K c r)
       refine step_ret (pD S.ok (hn.gr (gh.mo' S.fr ak)) I) ?_
       rintro rv h4 ⟨g4,rfl⟩
       replace S:=S.call g4;clear g4
       have ga:d.arcs[a]=d.arcs.getD a default:=by simp [zk,I]
       have an:=hA (d.arcs.getD a default) (by rw [<-ga];exact zW I)
       have lv:=ad.2.1
       have bB:t.O.length*co<=12*co:=Nat.mul_le_mul_right _ (z7 T.len n2)
       rw [ga]
       simp only [BS,LB,Nat.reduceLT,Nat.reduceEqDiff,Fi,cG]
       refine am aF S ?_;clear S;intro h b6 S bi
       simp only [BS,LB,Nat.reduceLT,Nat.reduceEqDiff]
       refine aH (S.store (i:=0) rfl ?_ ?_ rfl rfl ?_ ono) ?_
       . exact(by exact Tryz.t99.2.1)
       . exact(by intro x e;cases e)
       . exact lbt rfl
       clear S;rintro h ⟨S,mo⟩;clear mo;simp only [LC,ah,lay,zJ,zK,Nat.reduceAdd]at S
       simp only [BS,LB,Nat.reduceLT,Nat.reduceEqDiff]
       have lL:=(S.row (b:=V) m2).load1 (qj (L:=t.L) hv)
       have wn:au .i64 ((t.L v:Int)+((d.arcs.getD a default).w:Int))=((t.L v+(d.arcs.getD a default).w:Nat):Int):=by rw [wrap64]<;>omega
       refine aE (aK rfl) (q:=0) (ps:=[]) (by kernel_rfl) ?_
       simp only [BS,LB,cls,Nat.reduceLT,Nat.reduceEqDiff,Nat.reduceAdd,Nat.reducePow,Nat.reduceDiv,Nat.reduceMod,Nat.reduceLeDiff,Fi,r0,r1,wn,hv,lL,S.ld (b:=br) (o:=2) m1 rfl,S.ld (b:=b6) (o:=1) m0 rfl,S.ld (b:=b6) (o:=2) m0 rfl]
       have kn:=fun c r=>(S.key_own (b:=c) r).symm
       have kf:=S.fr
       have gx:=gh.mo' S.fr ak
       have bd: ∀c∈F,c∉keys (srL br V X Y d.nodes (ptrTo G) (ptrTo Z) (.func (.func N) #[] #[ptrTo u]) (.func (.func O) #[] #[ptrTo u]) C (evS t ⟨1,a,0⟩)) (srG C (evS t ⟨1,a,0⟩)):=fun c r P=>by
        rcases kn c (Xe _ P)with D|D
        . exact hF c r D
        . have:=lF c r;omega
       have R2:=eA.close (σ:=evS t ⟨1,a,0⟩) (vE:=C) S.drop1 (H.mo kf (fun c r P=>hF c r P)) bd
       have a0: ∀c∈keys (srL br V X Y d.nodes (ptrTo G) (ptrTo Z) (.func (.func N) #[] #[ptrTo u]) (.func (.func O) #[] #[ptrTo u]) C (evS t ⟨1,a,0⟩)) (srG C (evS t ⟨1,a,0⟩))++F,c∈A\/hS.n<=c:=fun c r=>by
        rcases List.mem_append.1 r with r|r
        . exact(kn c (Xe _ r)).imp (K c) (fun h=>h)
        . exact .inl (bc c r)
       refine cM (tO (p:=a::t.P v) (lab:=t.L v+(d.arcs.getD a default).w) gx R2 a2 n2 an.1 (by omega) (hp _ an.1) (fun k hk=>(T.op _ k hk).2.2.2)) ?_
       rintro rv h5 ⟨f5,B3,R3,be⟩
       simp only [BS,LB,Nat.reduceLT,Nat.reduceEqDiff,Nat.reduceAdd,r15,w]
       have nh:=f.n
       have nx:=kf.n
       have gB: ∀c,c∈A\/hS.n<=c->c∈B\/D.n<=c:=fun c r=>r.elim (hB' c) (fun h=>.inr (by omega))
       refine ih (i+1) _ _ (by omega) ⟨by omega,B3,(f.trans kf (fun c r=>gB c (.inl (K c r)))).trans f5 (fun c r=>gB c (a0 c r)),?_,fun c r=>gB c ((be c r).elim (a0 c) (fun h=>.inr (by omega))),by simp [ab,r0,ao],by simp [ab,r1],by simp [ab,r13],by simp [ab,r14],by simp [ab]⟩
       rw [J]
       unfold scan1
       rw [Q,if_pos rfl]
       exact R3
   . have ei:i=(outs d.arcs Arc.s d.arcs.length v).length:=by omega
     simp only [BS,LB,Nat.reduceLT,r14,r15,aI,hlt]
     refine⟨(g.fr (M:=(· ∈B))).trans f (fun c r=>.inl r),A,?_,fun c r=>(hB' c r).imp (fun h=>h) (fun h=>by omega)⟩
     rw [ei,List.take_length]at R'
     exact R'
 . exact⟨Xh _,B,Mo.refl a3,R1,fun c r=>.inl r,by simp [ab,bu,ao],by simp [ab,bu,dF],by simp [ab],by simp [ab],by simp [ab]⟩
def Tryz.F0h:=aj t1<|aj t2<|aj t3<|aj t4<|aj t6<|aj Z2<|aj t33<|t250
def Tryz.Fs:=aj t1<|aj t2<|aj t3<|aj t4<|aj t24<|aj Z0<|aj t32<|aj t33<|aj t48<|aj t74<|aj Z7<|aj Z1<|aj t189<|aj Z3<|aj t196<|aj t217<|aj t237<|aj t275<|aj Z13<|Z8
def IterW(E:Env)(g:FuncId)(a:List Value)(h0:Hp)(D W:Nat->Prop)(xs:List (List Value)):Prop:=
 ∀c J Z,(∀v h,¬Z (.pan v) h)->Yld E c J Z xs->(∀i h F d,J i h F->Mo W h d->J i d F)-> ∀h F,ItS h0 D h F->(∀b,W b->h.get b=h0.get b)->(∀b∈F,¬W b)->J 0 h F->fu E g ([]++[.func (.yield c) #[] #[]]++a) none h (YQ J Z xs.length)
theorem qZ(l:List Nat):(l.flatMap cI).length=l.length:=by rw [aU jo];omega
theorem jj{h:Hp}{p:GL}(g:dz h p){c:Nat}(a:av p.1 c):c8 p=some c:=by
 rcases g with⟨e,_⟩|⟨b,n,e,_⟩
 . rw [e]at a;exact a.elim
 . obtain⟨v,k,d⟩:=p
   simp only []at e a
   subst e
   exact congrArg some a
theorem uG{h0:Hp}(ok:h0.t.Sized h0.n){g:FuncId}{f:Array Value}{D W:Nat->Prop}{xs:List Nat}(it:IterW zj g f.toList h0 D W (xs.map fun(x:Nat)=>[.int .i64 x]))(K: ∀b,W b->b<h0.n)(hn:xs.length<100000):
 Ret zj 253 [.slice none 0 0,.func (.func g) #[] f] h0 fun r p=>Mo W h0 p/\dz p (r,1,xs.flatMap cI)/\ ∀c,av r c->h0.n<=c:=by
 have S:=Si ok
 refine ag (n:=13) (rs:=[.tmp 4]) rfl Tryz.e253 rfl rfl rfl (lbt rfl) ?_
 simp only [BS,Nat.reduceLT]
 refine am (dp (by exact bD)) S ?_;clear S;intro h q S v
 simp only [BS,Nat.reduceLT,Nat.reduceEqDiff,if_false]
 replace S:=S.nilG (k:=1)
 have N:=S.gr
 replace S:=S.monoM (M:=W)
 have G:=S.fr
 refine kZ S (g:=g) (a:=#[]) (b:=f) (by simp [cy,ab,bu,dF]) rfl rfl ?_
 intro H w u s aa ac O
 obtain⟨X,P,s⟩: ∃X:fG,X=_/\St W h0 H [(u,.loop X),(w,.dfr),(q,.row [.slice none 0 0] 1)] [(.slice none 0 0,1,[])]:=⟨_,rfl,s⟩
 have Q: ∀c,h0.n<=c-> ¬W c:=fun c h I=>by have:=K c I;omega
 have hJ:Yld zj u (fun k p F=> ∃(e:Value),St W h0 p [(u,.loop X),(w,.dfr),(q,.row [e] 1)] [(e,1,(xs.take k).flatMap cI)]/\k<=xs.length/\(∀c∈F,h0.n<=c)/\F=keys [(u,.loop X),(w,.dfr),(q,.row [e] 1)] [(e,1,(xs.take k).flatMap cI)]) (fun _ _=>False) (xs.map fun(x:Nat)=>[.int .i64 x]):=by
  refine⟨?_,?_,fun _ _ h=>h.elim,?_⟩
  . rintro i h F ⟨e,S,_,_,rfl⟩;exact⟨S.ok,fun b l=>S.key_lt l⟩
  . rintro i h F p ⟨e,S,a,b,rfl⟩ E;exact⟨e,S.call E,a,b,rfl⟩
  . rintro i x hR F z ⟨e,S,a,b,rfl⟩
    have A:i<xs.length:=by
     have:=(List.getElem?_eq_some_iff.1 z).1
     simpa using this
    rw [zR,zn A]at z
    cases z
    have tk:(xs.take (i+1)).flatMap cI=(xs.take i).flatMap cI++[.int .i64 (xs[i]:Nat)]:=by rw [List.take_add_one,zn A,Xy];rfl
    have tl:(xs.take i).length<=i:=by rw [zI];omega
    subst P
    refine lz (S.get m0) (by rw [Tryz.e253];rfl) rfl ?_
    have R:=S
    replace S:=S.base
    simp only [BS,LB,Nat.reduceLT,Nat.reduceEqDiff]
    refine jB S (i:=0) rfl rfl rfl rfl rfl ?_
    clear S;intro h S
    simp only [LC]at S
    simp only [BS,LB,Nat.reduceLT,Nat.reduceEqDiff,F0h,S.ld (b:=q) (o:=0) m2 rfl]
    refine am (bW (by exact Tryz.t33.1) (by exact Xs) (by decide) (by rfl)) S ?_;clear S;intro h U S V;simp only [LC,aV,bJ,ah,Nat.reduceMul,Nat.reduceAdd,zM,zG,zY,z9]at S
    simp only [BS,LB,Nat.reduceLT,Nat.reduceEqDiff]
    have B:aL h 1 (.slice (some ⟨U,0,none⟩) 1 1)=some (1,[.int .i64 (xs[i]:Nat)]):=by simp only [aL];rw [S.lds (b:=U) (o:=0) (n:=1*1) m0 (lbt rfl)];rfl
    replace S:=S.drop1
    refine dQ (S.grow (j:=0) (m:=1) (new:=[.int .i64 (xs[i]:Nat)]) rfl Tryz.t33.1 Xs (by decide) Tryz.t33.2.2.2.2.2 B rfl (by decide) rfl (by rw [qZ];simp;omega)) ?_
    clear S B;rintro h C S
    simp only [LC]at S
    have fv:Fl C:=(S.gown _ m0).1.fl
    simp only [BS,LB,Nat.reduceLT,Nat.reduceEqDiff]
    refine aH (aC S (i:=2) rfl Tryz.t33.2.2.1 fv (zt (lbt rfl)) ono) ?_
    clear S;rintro h ⟨S,_⟩
    simp only [LC]at S
    simp only [BS]
    refine gH S (i:=0) rfl ?_
    clear S;intro h S
    simp only [LC]at S
    rw [<-tk]at S
    have J:=R.rebase S
    refine .inl ⟨rfl,_,⟨C,J,by omega,fun c d=>?_,rfl⟩,S.fr,fun c d=>(S.key_own d).symm⟩
    rcases S.key_own d with Y|Y
    . have:=R.fr.n;omega
    . exact b c Y
 have t: ∀c∈keys [(u,Ob.loop X),(w,.dfr),(q,.row [.slice none 0 0] 1)] [(.slice none 0 0,1,[])],h0.n<=c:=fun c d=>by
  have n2:=v
  have:=G.n
  simp [keys,c8]at d
  omega
 refine iN (it u _ _ (fun _ _ h=>h) hJ ?_ H _ ?_ ?_ (fun c d=>Q c (t c d)) ⟨_,s,Xh _,t,rfl⟩) fun o rc p y=>lx y ?_
 . rintro i h F p ⟨e,S,a,b,rfl⟩ E
   exact⟨e,S.step E (fun c d=>.inl d) (fun c d I=>Q c (b c d) I),a,b,rfl⟩
 . have E:Mo W h0 H:=s.fr
   exact⟨s.ok,s.fr.n,fun b l _=>(N.trans O).get b l,fun b l h=>by have:=t b l;omega,fun b l=>s.key_lt l⟩
 . exact fun b l=>(N.trans O).get b (K b l)
 . rintro F ⟨e,T,a,b,rfl⟩
   rw [Xn,List.take_length]at T b
   subst P
   refine⟨_,T.get m0,Nat.zero_ne_one,?_⟩
   replace T:=T.dead
   have S:=T
   show Run _ _ _ _ _ _ _ _
   simp only [BS,LB,Nat.reduceLT,Nat.reduceEqDiff,F0h,S.ld (b:=q) (o:=0) m1 rfl]
   refine gL (kc [w] _ (L:=[(q,_)]) T.base fun h3 Z=>⟨rfl,_,rfl,?_⟩)
   refine⟨(T.fr.trans Z.fr (fun c d=>(T.key_own d).symm):Mo W h0 h3),(Z.gown _ m0).1,fun x z=>?_⟩
   refine b x ?_
   have:c8 (e,1,xs.flatMap cI)=some x:=jj (T.gown _ m0).1 z
   exact eQ m0 this
theorem xM{h0:Hp}(e:h0.t.Sized h0.n){g:FuncId}{a:Array Value}{D W:Nat->Prop}{xs:List Nat}(i:IterW zj g a.toList h0 D W (xs.map fun(x:Nat)=>[.int .i64 x]))(j: ∀b,W b->b<h0.n)(k:xs.length<100000):
 Ret zj 218 [.func (.func g) #[] a] h0 fun r d=>Mo W h0 d/\dz d (r,1,xs.flatMap cI)/\ ∀c,av r c->h0.n<=c:=by
 have S:=Si e
 refine ag (n:=5) (rs:=[.tmp 2]) rfl Tryz.e218 rfl rfl rfl (lbt rfl) ?_
 simp only [BS,LB,Nat.reduceLT,Nat.reduceEqDiff]
 refine step_ret (uG S.ok i j k) ?_
 rintro r h ⟨f,q⟩
 simp only [BS,LB,ae,Nat.reduceLT,Nat.reduceEqDiff]
 exact⟨f,q⟩
theorem sback_ok{h0:Hp}(g:h0.t.Sized h0.n){br v:Nat}:Ret zj 219 [ptrTo br,.int .i64 v] h0 fun r f=>Gr h0 f/\ ∃a b,r=.func (.func 254) #[] #[ptrTo a,ptrTo b]/\h0.n<=a/\h0.n<=b/\a≠b/\f.load a 0 1=some [ptrTo br]/\Row f b [.int .i64 v] 1:=by
 have S:=Si g
 refine ag (n:=6) (rs:=[.tmp 4]) rfl Tryz.e219 rfl rfl rfl (lbt rfl) ?_
 simp only [BS,Nat.reduceLT]
 refine am (dp (by exact fO)) S ?_;clear S;intro h a S c
 simp only [BS,Nat.reduceLT,Nat.reduceEqDiff,if_false]
 refine am (dp (by exact bI)) S ?_;clear S;intro h b S d
 simp only [BS,LB,ae,Nat.reduceLT,Nat.reduceEqDiff]
 have i:=S.apart
 exact⟨S.gr,a,b,rfl,c,d,fun e=>(by subst e;simp [keys]at i),S.ld m1 rfl,S.row m0⟩
theorem back_it{w h0:Hp}(aa:w.t.Sized w.n)(gq:Gr w h0){k:Gra}(an:Good k){nb C:Nat}(hn:cE w nb (ptrTo C) k){B:List Nat}{br y f s:Nat}{p r:Value}{σ:SS}{al:Nat->Bool}{pi:Nat->Int}(R:eA h0 B br (ptrTo C) p r k.nodes σ)(T:Sv k.arcs k.nodes s al pi σ){l:Nat}(hu:l∈σ.O)
 (e1:h0.load y 0 1=some [ptrTo br]) (e2:Row h0 f [.int .i64 l] 1) (d1:f∉B) (d2:y≠f) (d3:w.n<=f):
 IterW zj 254 [ptrTo y,ptrTo f] h0 (fun c=>c=y\/c∈B\/c<w.n) (· =f) ((σ.P l).map fun(a:Nat)=>[.int .i64 a]):=by
 intro lb J Z hz Y hW h F t z E G
 have g:=gq.ok
 obtain⟨bl,H,bk,ph,F',D,rfl,hL,_⟩:=R
 have rr:Row h0 br _ 1:=hL _ m0
 have rb:Row h0 H (byC k.nodes σ.P) 1:=hL _ m2
 have I:br∈keys (srL br bl H bk k.nodes (ptrTo C) (ptrTo ph) p r D σ) (srG D σ)++F':=zl _ (by simp [srL,keys])
 have U:H∈keys (srL br bl H bk k.nodes (ptrTo C) (ptrTo ph) p r D σ) (srG D σ)++F':=zl _ (by simp [srL,keys])
 generalize keys (srL br bl H bk k.nodes (ptrTo C) (ptrTo ph) p r D σ) (srG D σ)++F'=B at d1 I U t
 have l0:=rr.load1 (o:=0) rfl
 have l3:=rr.load1 (o:=3) rfl
 have d:Row h f [.int .i64 l] 1:=Row.of_get (z f rfl) e2
 have q2:=d.load1 (o:=0) rfl
 have V:=T.lt l hu
 have K:=t.load g e1 (.inl rfl)
 have W:=t.load g l3 (.inr (.inl I))
 have X:=t.load g (rb.load1 (byC_at (P:=σ.P) V)) (.inr (.inl U))
 refine enter (n:=39) (rs:=[]) rfl Tryz.e254 rfl rfl rfl (lbt rfl) ?_
 simp only [BS,LB]
 refine aE (aK rfl) (q:=0) (ps:=[]) (by kernel_rfl) ?_
 simp only [BS,LB,cls,Nat.reduceLT,Nat.reduceEqDiff,Nat.reduceAdd,Nat.reducePow,Nat.reduceDiv,Nat.reduceMod,Nat.reduceLeDiff,Fs,K,q2,W,X,V]
 refine bg (fun(j:Nat) L h=>j<=(σ.P l).length/\ ∃u F,u∈σ.O/\σ.P u=(σ.P l).drop j/\ItS h0 (fun c=>c=y\/c∈B\/c<w.n) h F/\f∉F/\J j h F/\Row h f [.int .i64 (u:Nat)] 1/\L 0=.func (.yield lb) #[] #[]/\L 1=ptrTo y/\L 2=ptrTo f/\L 4=.int .i64 (byI (σ.P u))) (fun j=>(σ.P l).length-j) ?_ 0 _ _ ?_
 . clear K q2 W X V d G E z t F h
   intro j ih L hS ⟨hj',u,F,hu',hP,t,E,G,d,r0,r1,r2,r4⟩
   have V:=T.lt u hu'
   rcases T.path u (.inl hu')with⟨_,e,_⟩|⟨a,ha,a0,ht,hs,e,_⟩
   . have ej:j=(σ.P l).length:=by
      rw [e]at hP
      have:=congrArg List.length hP
      rw [List.length_drop]at this
      simp at this;omega
     rw [e]at r4
     simp only [byI]at r4
     simp only [BS,LB,Nat.reduceLT,Nat.reduceEqDiff,Int.reduceLE,r4]
     exact dS (dE ⟨rfl,_,rfl,rfl,.inl ⟨_,F,rfl,by rw [Xn,<-ej];exact G⟩⟩)
   . have hlt:j<(σ.P l).length:=by
      rw [e]at hP
      have:=congrArg List.length hP
      rw [List.length_drop]at this
      simp at this;omega
     have M:(σ.P l)[j]=a/\(σ.P l).drop (j+1)=σ.P (k.arcs.getD a default).s:=by
      rw [e,zZ hlt]at hP
      injection hP with h1 h2
      exact⟨h1.symm,h2.symm⟩
     have hx:((σ.P l).map fun(a:Nat)=>[Value.int .i64 a])[j]? =some [.int .i64 (a:Nat)]:=by rw [zR,zn hlt,M.1];rfl
     rw [e]at r4
     simp only [byI]at r4
     have c0:(0:Int)<=(a:Int):=by omega
     have ai:=d.lt t.ok
     simp only [BS,LB,Nat.reduceLT,Nat.reduceEqDiff,r0,r4,c0]
     refine ef Y t G (i:=j) hx ?_ ?_ ?_
     . intro N F2 ac m f2 ad
       have A:Row N f [.int .i64 (u:Nat)] 1:=f2.has (o:=.row _ 1) d E
       have af:f∉F2:=fun hm=>(ad f hm).elim E (fun h=>by omega)
       have S:=St.init1 m.ok (o:=.row _ 1) A
       have K:=m.load g e1 (.inl rfl)
       have q0:=m.load g l0 (.inr (.inl I))
       have W:=m.load g l3 (.inr (.inl I))
       have sN:=T.lt _ hs
       have X:=m.load g (rb.load1 (byC_at (P:=σ.P) sN)) (.inr (.inl U))
       have nt:cE N nb (ptrTo C) k:=hn.keep aa (m.keep (Gr.keep gq) gq.n (fun c hc=>.inr (.inr hc)))
       simp only [BS,LB,Nat.reduceLT,Nat.reduceEqDiff,Fs,r1,r4,K,q0]
       refine step_ret (pD S.ok nt ha) ?_
       rintro rv h4 ⟨g4,rfl⟩
       replace S:=S.call g4;clear g4
       have ga:k.arcs[a]=k.arcs.getD a default:=by simp [zk,ha]
       rw [ga]
       have O: ∀{c},c=y\/c∈B-> ¬c=f:=fun hc e=>by subst e;exact hc.elim (fun h=>d2 h.symm) d1
       simp only [BS,LB,Nat.reduceLT,Nat.reduceEqDiff,Fs,cG]
       refine am aF S ?_;clear S;intro h b5 S ak
       simp only [BS,LB,Nat.reduceLT,Nat.reduceEqDiff]
       refine aH (S.store (i:=0) rfl ?_ ?_ rfl rfl ?_ ono) ?_
       . exact(by exact Tryz.t99.2.1)
       . exact(by intro x e;cases e)
       . exact lbt rfl
       clear S;rintro h ⟨S,mo⟩;clear mo;simp only [LC,ah,lay,zJ,zK,Nat.reduceAdd]at S
       simp only [BS,LB,Nat.reduceLT,Nat.reduceEqDiff,Fs,r2,S.ld (b:=b5) (o:=0) m0 rfl]
       refine aH (aC S (i:=1) rfl ?_ ?_ ?_ ono) ?_
       . exact(by simp only [Fs])
       . exact(by exact bI)
       . exact zt (lbt rfl)
       clear S;rintro h ⟨S,mo⟩;clear mo;simp only [LC,ah,lay,zJ,zK,Nat.reduceAdd]at S
       have k1:=S.old K (O (.inl rfl))
       have k3:=S.old W (O (.inr I))
       have k4:=S.old X (O (.inr U))
       simp only [BS]
       refine aE (aK rfl) (q:=0) (ps:=[]) (by kernel_rfl) ?_
       simp only [BS,LB,cls,Nat.reduceLT,Nat.reduceEqDiff,Nat.reduceAdd,Nat.reducePow,Nat.reduceDiv,Nat.reduceMod,Nat.reduceLeDiff,Fs,r1,r2,k1,k3,k4,sN,S.ld (b:=f) (o:=0) m1 rfl]
       have Q:=S.fr
       refine ih (j+1) _ _ (by omega) ⟨by omega,(k.arcs.getD a default).s,F2,hs,M.2.symm,?_,af,hW _ _ _ _ ac Q,S.row (by simp),by simp [ab,r0],by simp [ab,r1,ao],by simp [ab,r2,ao],by simp [ab]⟩
       exact⟨Q.ok,z7 m.n Q.n,fun b z M=>(Q.get b (z8 z m.n) (by rcases M with h|h|h;exact O (.inl h);exact O (.inr h);exact fun e=>by omega)).trans (m.data b z M),m.apart,fun b z=>z8 (m.lt b z) Q.n⟩
     . intro N a' _
       simp only [BS,LB,Nat.reduceLT,Nat.reduceEqDiff]
       exact dS (dE ⟨rfl,_,rfl,rfl,.inr (.inl ⟨_,rfl,a'⟩)⟩)
     . intro v N a'
       exact absurd a' (hz v N)
 . exact⟨Xh _,l,F,hu,by rw [List.drop_zero],t,fun hm=>E f hm rfl,G,d,by simp [ab,cC],by simp [ab,cC,ao],by simp [ab,cC,ao],by simp [ab]⟩
def Tryz.FK:=aj t1<|aj t2<|aj t3<|aj t4<|t33
def rvC(n k:Nat)(f:Nat->Value):List Value:=(zV n).map fun p=>if p<k\/n<=p+k then f (n-1-p)else f p
theorem ks{n k:Nat}{f:Nat->Value}:(rvC n k f).length=n:=by simp [rvC]
theorem nV{n k i:Nat}{f:Nat->Value}(h:i<n):(rvC n k f)[i]? =some (if i<k\/n<=i+k then f (n-1-i)else f i):=js (F:=fun p=>if p<k\/n<=p+k then f (n-1-p)else f p) h
theorem rvC_step{n k:Nat}{f:Nat->Value}(h:2*k+1<n):((rvC n k f).set k (f (n-1-k))).set (n-1-k) (f k)=rvC n (k+1) f:=by
 refine zQ fun i=>?_
 rw [List.getElem?_set,List.getElem?_set,zw,ks]
 by_cases a:i<n
 . rw [nV a,nV a]
   by_cases b:n-1-k=i
   . subst b
     rw [if_pos rfl,if_pos a,if_pos (.inr (by omega)),show n-1-(n-1-k)=k by omega]
   . rw [if_neg b]
     by_cases d:k=i
     . subst d
       rw [if_pos rfl,if_pos a,if_pos (.inl (by omega))]
     . rw [if_neg d]
       congr 1
       by_cases c:i<k\/n<=i+k
       . rw [if_pos c,if_pos (by omega)]
       . rw [if_neg c,if_neg (by omega)]
 . rw [if_neg (by omega),if_neg (by omega)]
   rw [zD (by rw [ks];omega),zD (by rw [ks];omega)]
theorem rvC_zero{xs:List Nat}:xs.flatMap cI=rvC xs.length 0 fun p=>.int .i64 (xs.getD p 0:Nat):=by
 have e:xs.flatMap cI=xs.map fun(x:Nat)=>Value.int .i64 x:=by
  rw [zU,Xz,zU];rfl
 rw [e]
 refine zQ fun i=>?_
 by_cases a:i<xs.length
 . rw [nV a,if_neg (by omega)];simp [a]
 . rw [zD (by simpa using a),zD (by rw [ks];omega)]
theorem rvC_done{xs:List Nat}{k:Nat}(h:xs.length<=2*k+1)(d:2*k<=xs.length):rvC xs.length k (fun p=>.int .i64 (xs.getD p 0:Nat))=xs.reverse.flatMap cI:=by
 have e:xs.reverse.flatMap cI=xs.reverse.map fun(x:Nat)=>Value.int .i64 x:=by
  rw [zU,Xz,zU];rfl
 rw [e]
 refine zQ fun i=>?_
 by_cases b:i<xs.length
 . rw [nV b,zR,List.getElem?_reverse b]
   have a:xs.length-1-i<xs.length:=by omega
   rw [zn a]
   have g: ∀{j:Nat} (a:j<xs.length),xs.getD j 0=xs[j]:=fun a=>by simp [zk,a]
   by_cases c:i<k\/xs.length<=i+k
   . rw [if_pos c,g a];rfl
   . rw [if_neg c]
     have:i=xs.length-1-i:=by omega
     rw [g b]
     simp only [Option.map_some]
     congr 3
     simp only [<-this]
 . rw [zD (by rw [ks];omega),zD (by simpa using b)]
theorem xB{h0:Hp}(u:h0.t.Sized h0.n){v:Value}{xs:List Nat}(z:dz h0 (v,1,xs.flatMap cI))(M:xs.length<1000000):
 Ret zj 123 [v] h0 fun _ w=>Mo (av v) h0 w/\dz w (v,1,xs.reverse.flatMap cI):=by
 rcases z with⟨g,j⟩|⟨b,n,g,j,t⟩
 . simp only []at g j
   subst g
   have:xs=[]:=by
    cases xs with
    |nil=>rfl
    |cons a l=>simp [cI]at j
   subst this
   have S:=Si u
   refine ag (n:=28) (rs:=[]) rfl Tryz.e123 rfl rfl rfl (lbt rfl) ?_
   simp only [BS,LB,Nat.reduceLT,Nat.reduceEqDiff,Int.reduceSub,zy,FK]
   rw [ce]
   have A:au .i64 (-1)= -1:=rfl
   have B: ¬((0:Int)< -1):=by omega
   simp only [BS,LB,Nat.reduceLT,Nat.reduceEqDiff,A,B]
   exact⟨S.gr.fr,.inl ⟨rfl,rfl⟩⟩
 . simp only []at g j t
   subst g
   have C:n=xs.length:=by rw [qZ]at j;omega
   subst C
   rw [rvC_zero]at t
   have S:=St.init1 u (o:=.row _ 1) t
   have D:au .i64 ((xs.length:Int)-1)=(xs.length:Int)-1:=by rw [wrap64]<;>omega
   refine ag (n:=28) (rs:=[]) rfl Tryz.e123 rfl rfl rfl (lbt rfl) ?_
   simp only [BS,LB,Nat.reduceLT,Nat.reduceEqDiff,FK,D]
   refine bg (fun(k:Nat) r h=>2*k<=xs.length/\St (· =b) h0 h [(b,.row (rvC xs.length k fun p=>.int .i64 (xs.getD p 0:Nat)) 1)] []/\r 0=.slice (some ⟨b,0,some 1⟩) xs.length xs.length/\r 2=.int .i64 (k:Nat)/\r 3=.int .i64 ((xs.length:Int)-1-k)) (fun k=>xs.length-k) ?_ 0 _ _ ?_
   . clear S
     intro k E r N ⟨hk,S,r0,r2,r3⟩
     by_cases hlt:2*k+1<xs.length
     . have s:(k:Int)<(xs.length:Int)-1-k:=by omega
       have e:k<xs.length:=by omega
       have d:xs.length-1-k<xs.length:=by omega
       have F:(xs.length:Int)-1-k=((xs.length-1-k:Nat):Int):=by omega
       have G:au .i64 ((k:Int)+1)=((k+1:Nat):Int):=by rw [wrap64]<;>omega
       have H:au .i64 (((xs.length-1-k:Nat):Int)-1)=(xs.length:Int)-1-(k+1:Nat):=by rw [wrap64]<;>omega
       have x:=(S.row (b:=b) m0).load1 (nV e)
       have y:=(S.row (b:=b) m0).load1 (nV d)
       rw [if_neg (by omega)]at x y
       rw [F]at r3 s
       simp only [BS,LB,Nat.reduceLT,Nat.reduceEqDiff,r2,r3,s]
       refine aE (aK rfl) (q:=0) (ps:=[]) (by kernel_rfl) ?_
       simp only [BS,LB,cls,Nat.reduceLT,Nat.reduceEqDiff,Nat.reduceAdd,Nat.reducePow,Nat.reduceDiv,Nat.reduceMod,Nat.reduceLeDiff,FK,r0,r2,r3,e,d,x,y]
       refine cU (aC S (i:=0) rfl Tryz.t3.2.2.1 bI (by rw [ks];exact e) ono) ?_
       clear S;rintro O ⟨S,I⟩
       simp only [LC]at S
       simp only [BS,LB,cls,Nat.reduceLT,Nat.reduceEqDiff,Nat.reduceAdd,Nat.reducePow,Nat.reduceDiv,Nat.reduceMod,Nat.reduceLeDiff,FK,d]
       refine cU (aC S (i:=0) rfl Tryz.t3.2.2.1 bI (by rw [zw,ks];exact d) ono) ?_
       clear S;rintro P ⟨S,J⟩
       simp only [LC]at S
       have K:=rvC_step (f:=fun p=>.int .i64 (xs.getD p 0:Nat)) hlt
       rw [K]at S
       simp only [BS,LB,Nat.reduceLT,Nat.reduceEqDiff,Nat.reduceAdd,r2,r3,G,H]
       exact E (k+1) _ _ (by omega) ⟨by omega,S,by simp [ab,r0],by simp [ab],by simp [ab]⟩
     . have s: ¬(k:Int)<(xs.length:Int)-1-k:=by omega
       simp only [BS,LB,Nat.reduceLT,Nat.reduceEqDiff,r2,r3,s]
       have m:=S.row m0
       rw [rvC_done (by omega) hk]at m
       exact⟨S.fr.mono (fun c L=>Eq.symm L),.inr ⟨b,xs.length,rfl,by show xs.length*1=(xs.reverse.flatMap cI).length;rw [qZ,List.length_reverse];omega,m⟩⟩
   . exact⟨by omega,S,by simp [ab,bu],by simp [ab],by simp [ab]⟩
end Go.Ab
end
section
namespace Go.Ab
def swJ(l:List Nat)(j:Nat):List Nat:=(l.set j (l.getD (j-1) 0)).set (j-1) (l.getD j 0)
def bub(key:Nat->Int):Nat->List Nat->List Nat
 |0,l=>l
 |j+1,l=>if key (l.getD j 0)<key (l.getD (j+1) 0)then bub key j (swJ l (j+1))else l
def gC(key:Nat->Int)(k:Nat)(l:List Nat):List Nat:=(zV k).foldl (fun l i=>bub key (i+1) l) l
theorem nv(key:Nat->Int)(k:Nat)(l:List Nat):gC key (k+1) l=bub key (k+1) (gC key k l):=by
 unfold gC;rw [List.range_succ,List.foldl_append];rfl
theorem swJ_len(l:List Nat)(j:Nat):(swJ l j).length=l.length:=by simp [swJ]
theorem wp{l:List Nat}{j:Nat}(h:j<l.length):(swJ l j).Perm l:=by
 have:((l.set j l[j-1]).set (j-1) l[j]).Perm l:=List.set_set_perm h (by omega)
 unfold swJ
 rwa [show l.getD (j-1) 0=l[j-1] by simp [zk,show j-1<l.length by omega],show l.getD j 0=l[j] by simp [zk,h]]
theorem vD{key:Nat->Int}: ∀(j:Nat) {l:List Nat},j<l.length->(bub key j l).Perm l
 |0,l,_=>.refl _
 | j+1,l,h=>by
   unfold bub
   split
   . exact(vD j (by rw [swJ_len];omega)).trans (wp h)
   . exact .refl _
theorem nA{key:Nat->Int}{l:List Nat}: ∀(k:Nat),k<l.length\/k=0->(gC key k l).Perm l
 |0,_=>.refl _
 | k+1,h=>by
   have a:=nA (key:=key) (l:=l) k (by omega)
   rw [nv]
   exact(vD (k+1) (by rw [a.length_eq];omega)).trans a
end Go.Ab

end

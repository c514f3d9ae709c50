/- Nets, cells, flags: what the functions do (part 2). -/
import Derived.Test.YtnandelhggbchaaGreatDoorNetA
open Go.Ab.Tryz
open Go.Ab.Tryz renaming abEnv->zM,e344E->Yg,e3E->Yr
open List renaming replicate->zN,getD_eq_getElem?_getD->Xb,mem_of_getElem?->Xc,nodup_append->Xd,mem_map_of_mem->Xg,length_set->Xh,map_cons->Xi,length_take->Xj,getElem?_eq_none->Xl,flatMap_eq_foldl->Xm,map_append->Xn,getElem?_eq_getElem->Xo,mem_append_left->Xp,ext_getElem?->Xq,getElem?_replicate->Xr,mem_append_right->Xt,mem_cons->Xw,nodup_cons->Xx,length_append->Xy,take->XC,drop->XD,append_nil->XE,range->XG,getElem?_map->XH,not_mem_nil->XK,length_replicate->XL,getElem?_append->XM,take_append_of_le_length->XO,map_eq_flatMap->XP,filterMap_nil->XR,getElem?_append_right->XS,getElem?_set->XT,drop_eq_getElem_cons->XU,getElem_mem->XW,length_nil->X7,length_singleton->Yc,drop_zero->Yd,getElem?_range->Yj,take_replicate->Yk,replicate_zero->Yl,map_nil->Yp
open Int renaming cast_ofNat_Int->Xa,toNat_natCast->XI,ofNat_eq_natCast->Ye,ofNat->Ym
open Prod renaming fst->Xe
open Nat renaming ble_eq_true_of_le->Xf,le_trans->Xs,lt_of_succ_le->Xu,zero_add->Xv,mul_one->Xz,beq->XA,zero_mul->XB,lt_of_lt_of_le->XF,le_refl->XJ,ble->XQ,beq_refl->XV,add_zero->XX,le_total->X6,min_eq_left->X9,one_mul->Ya,eq_of_beq_eq_true->Yb,blt_eq->Yf,mul_le_mul_right->Yh,sub_zero->Yn,sub_self->Yo,le_of_lt->Yq
open Option renaming isSome_none->Xk,map_some->XN,getD_none->XY,getD_some->XZ,map_none->X8
open Bool renaming and_true->Yi
set_option maxHeartbeats 4000000
set_option linter.defProp false
set_option linter.unusedVariables false
set_option linter.unusedSimpArgs false
section
namespace Go.Ab
def EM(l:List (Int×Value×Nat)):List (Value×Value×Nat):=l.map fun p=>(.int .i64 p.1,p.2.1,p.2.2)
def dg(f:Int->Option Value)(x:Int)(v:Option Value):Int->Option Value:=fun y=>if y=x then v else f y
def cN(a:List (Value×Value×Nat))(c:Nat)(f:Int->Option Value):Prop:=
 ∃l,a=EM l/\(l.map Xe).Nodup/\(l.map fun p=>p.2.2).Nodup/\(∀p∈l,p.2.2<c)/\ ∀x v,f x=some v↔ ∃n,(x,v,n)∈l
theorem pz{x y:Int}:bz (.int .i64 x) (.int .i64 y)=some (decide (x=y)):=by
 show some (gY x y)=_
 congr 1
 rw [nJ]
theorem xu{l:List (Int×Value×Nat)}(a:(l.map Xe).Nodup){x:Int}{v:Value}{n:Nat}(h:(x,v,n)∈l):aK (.int .i64 x) (EM l)=some (some (v,n)):=by
 induction l with
 |nil=>cases h
 | cons p l b=>
   obtain⟨y,w,m⟩:=p
   show(match bz (.int .i64 x) (.int .i64 y)with|none=>none|some true=>some (some (w,m))|some false=>aK (.int .i64 x) (EM l))=_
   rw [pz]
   rw [Xi,Xx]at a
   by_cases e:x=y
   . subst e
     rw [decide_eq_true rfl]
     simp only []
     rcases List.mem_cons.1 h with h|h
     . cases h;rfl
     . exact absurd (Xg (f:=Xe) h) a.1
   . rw [decide_eq_false e]
     simp only []
     rcases List.mem_cons.1 h with h|h
     . cases h;exact absurd rfl e
     . exact b a.2 h
theorem find_miss{l:List (Int×Value×Nat)}{x:Int}(h:x∉l.map Xe):aK (.int .i64 x) (EM l)=some none:=by
 induction l with
 |nil=>rfl
 | cons p l a=>
   obtain⟨y,w,m⟩:=p
   show(match bz (.int .i64 x) (.int .i64 y)with|none=>none|some true=>some (some (w,m))|some false=>aK (.int .i64 x) (EM l))=_
   rw [pz]
   simp only [Xi,Xw,not_or]at h
   rw [decide_eq_false h.1]
   exact a h.2
theorem qO{l:List (Int×Value×Nat)}(c:(l.map Xe).Nodup){x:Int}{v:Value}{n:Nat}(h:(x,v,n)∈l):
 ∃a b,l=a++(x,v,n)::b/\(∀w,ip (.int .i64 x) w (EM l)=EM (a++(x,w,n)::b))/\jr (.int .i64 x) (EM l)=EM (a++b):=by
 induction l with
 |nil=>cases h
 | cons p l d=>
   obtain⟨y,w,m⟩:=p
   rw [Xi,Xx]at c
   by_cases e:x=y
   . subst e
     rcases List.mem_cons.1 h with h|h
     . cases h
       refine⟨[],l,rfl,fun u=>?_,?_⟩
       . show(match bz (.int .i64 x) (.int .i64 x)with|some true=>_|_=>_)=_
         rw [pz,decide_eq_true rfl];rfl
       . show(match bz (.int .i64 x) (.int .i64 x)with|some true=>_|_=>_)=_
         rw [pz,decide_eq_true rfl];rfl
     . exact absurd (Xg (f:=Xe) h) c.1
   . rcases List.mem_cons.1 h with h|h
     . cases h;exact absurd rfl e
     . obtain⟨a,b,g,i,j⟩:=d c.2 h
       refine⟨(y,w,m)::a,b,by rw [g];rfl,fun u=>?_,?_⟩
       . show(match bz (.int .i64 x) (.int .i64 y)with|some true=>_|_=>(Value.int .i64 y,w,m)::ip (.int .i64 x) u (EM l))=_
         rw [pz,decide_eq_false e,i];rfl
       . show(match bz (.int .i64 x) (.int .i64 y)with|some true=>_|_=>(Value.int .i64 y,w,m)::jr (.int .i64 x) (EM l))=_
         rw [pz,decide_eq_false e,j];rfl
theorem rO{a b:List (Int×Value×Nat)}{x:Int}{v w:Value}{n:Nat}(c:((a++(x,v,n)::b).map fun p=>p.2.2).Nodup):gT n w (EM (a++(x,v,n)::b))=some (EM (a++(x,w,n)::b)):=by
 induction a with
 | nil=>
   show(bif XA n n then _ else _)=_
   rw [XV];rfl
 | cons p a d=>
   obtain⟨y,u,m⟩:=p
   rw [List.cons_append,Xi,Xx]at c
   have:XA m n=false:=by
    cases f:XA m n with
    |false=>rfl
    | true=>
      have e:=Yb f
      exact absurd (List.mem_map.2 ⟨(x,v,n),by simp,e.symm⟩) c.1
   show(bif XA m n then _ else match gT n w (EM (a++(x,v,n)::b))with|none=>none|some g=>some ((Value.int .i64 y,u,m)::g))=_
   rw [this,d c.2];rfl
theorem rl{a b:List (Int×Value×Nat)}{x:Int}{v:Value}{n:Nat}:(a++(x,v,n)::b).map Xe=a.map Xe++x::b.map Xe:=by simp
section
variable{es:List (Value×Value×Nat)}{c:Nat}{f:Int->Option Value}{x:Int}
theorem kT:cN [] 0 (fun _=>none):=⟨[],rfl,.nil,.nil,fun _ h=>(by cases h),fun x v=>⟨fun h=>(by cases h),fun⟨_,h⟩=>(by cases h)⟩⟩
theorem cN.hit(h:cN es c f){v:Value}(hf:f x=some v): ∃n,aK (.int .i64 x) es=some (some (v,n)):=by
 obtain⟨l,rfl,a,e,g,b⟩:=h
 obtain⟨n,d⟩:=(b x v).1 hf
 exact⟨n,xu a d⟩
theorem cN.miss(h:cN es c f)(hf:f x=none):aK (.int .i64 x) es=some none:=by
 obtain⟨l,rfl,e,g,i,a⟩:=h
 refine find_miss fun b=>?_
 obtain⟨⟨y,v,n⟩,d,rfl⟩:=List.mem_map.1 b
 have:=(a y v).2 ⟨n,d⟩
 rw [hf]at this;cases this
theorem sO{a b:List (Int×Value×Nat)}{v w:Value}{n:Nat}(i:((a++(x,v,n)::b).map Xe).Nodup)(j:((a++(x,v,n)::b).map fun p=>p.2.2).Nodup)(h3: ∀p∈a++(x,v,n)::b,p.2.2<c)
 (h4: ∀x' v',f x'=some v'↔ ∃k,(x',v',k)∈a++(x,v,n)::b):cN (EM (a++(x,w,n)::b)) c (dg f x (some w)):=by
 have h:=i
 rw [rl,Xd]at h
 refine⟨_,rfl,by rw [rl];rwa [rl]at i,by rw [Xn,Xi]at j⊢;exact j,fun p g=>?_,fun y u=>?_⟩
 . rcases List.mem_append.1 g with g|g
   . exact h3 p (by simp [g])
   . rcases List.mem_cons.1 g with rfl|g
     . exact h3 (x,v,n) (by simp)
     . exact h3 p (by simp [g])
 . unfold dg
   by_cases e:y=x
   . subst e
     rw [if_pos rfl]
     constructor
     . intro e;cases e;exact⟨n,by simp⟩
     . rintro⟨m,d⟩
       rcases List.mem_append.1 d with d|d
       . exact absurd rfl (h.2.2 y (Xg (f:=Xe) d) y (by simp))
       . rcases List.mem_cons.1 d with d|d
         . cases d;rfl
         . exact absurd (Xg (f:=Xe) d) (List.nodup_cons.1 h.2.1).1
   . rw [if_neg e,h4]
     constructor<;>rintro⟨m,d⟩<;>refine⟨m,?_⟩
     . rcases List.mem_append.1 d with d|d
       . simp [d]
       . rcases List.mem_cons.1 d with d|d
         . cases d;exact absurd rfl e
         . simp [d]
     . rcases List.mem_append.1 d with d|d
       . simp [d]
       . rcases List.mem_cons.1 d with d|d
         . cases d;exact absurd rfl e
         . simp [d]
theorem sj{l:List (Int×Value×Nat)}{w:Value}(k:(l.map Xe).Nodup)(o:(l.map fun p=>p.2.2).Nodup)(h3: ∀p∈l,p.2.2<c)(h4: ∀x' v',f x'=some v'↔ ∃q,(x',v',q)∈l)(hf:f x=none):
 cN (EM (l++[(x,w,c)])) (c+1) (dg f x (some w)):=by
 have j:x∉l.map Xe:=fun d=>by
  obtain⟨⟨y,v,n⟩,g,rfl⟩:=List.mem_map.1 d
  have:=(h4 y v).2 ⟨n,g⟩
  rw [hf]at this;cases this
 refine⟨_,rfl,?_,?_,fun p g=>?_,fun y u=>?_⟩
 . rw [Xn,Xd]
   exact⟨k,by simp,fun a i b h e=>j (by simp at h;subst h;subst e;exact i)⟩
 . rw [Xn,Xd]
   refine⟨o,by simp,fun a i b h e=>?_⟩
   simp at h;subst h
   obtain⟨p,g,rfl⟩:=List.mem_map.1 i
   have:=h3 p g;omega
 . rcases List.mem_append.1 g with g|g
   . have:=h3 p g;omega
   . simp at g;subst g;exact Nat.lt_succ_self c
 . unfold dg
   by_cases e:y=x
   . subst e
     rw [if_pos rfl]
     constructor
     . intro e;cases e;exact⟨c,by simp⟩
     . rintro⟨m,d⟩
       rcases List.mem_append.1 d with d|d
       . exact absurd (Xg (f:=Xe) d) j
       . simp at d;rw [d.1]
   . rw [if_neg e,h4]
     constructor<;>rintro⟨m,d⟩<;>refine⟨m,?_⟩
     . simp [d]
     . rcases List.mem_append.1 d with d|d
       . exact d
       . simp at d;exact absurd d.1 e
theorem em_app(l:List (Int×Value×Nat))(v:Value)(n:Nat):EM l++[(.int .i64 x,v,n)]=EM (l++[(x,v,n)]):=by unfold EM;rw [Xn];rfl
theorem cN.put(h:cN es c f)(v:Value): ∃es' c',(match aK (.int .i64 x) es with|none=>none|some (some _)=>some (ip (.int .i64 x) v es,c)|some none=>some (es++[(.int .i64 x,v,c)],c+1))=some (es',c')/\cN es' c' (dg f x (some v)):=by
 cases hf:f x with
 | none=>
   rw [h.miss hf]
   obtain⟨l,rfl,d,i,j,g⟩:=h
   exact⟨_,_,rfl,by rw [em_app];exact sj d i j g hf⟩
 | some w=>
   obtain⟨n,e⟩:=h.hit hf
   rw [e]
   obtain⟨l,rfl,d,i,j,g⟩:=h
   obtain⟨m,k⟩:=(g x w).1 hf
   obtain⟨a,b,rfl,o,_⟩:=qO d k
   exact⟨_,_,rfl,by rw [o];exact sO d i j g⟩
theorem del_miss{l:List (Int×Value×Nat)}(h:x∉l.map Xe):jr (.int .i64 x) (EM l)=EM l:=by
 induction l with
 |nil=>rfl
 | cons p l a=>
   obtain⟨y,w,m⟩:=p
   simp only [Xi,Xw,not_or]at h
   show(match bz (.int .i64 x) (.int .i64 y)with|some true=>_|_=>(Value.int .i64 y,w,m)::jr (.int .i64 x) (EM l))=_
   rw [pz,decide_eq_false h.1,a h.2];rfl
theorem cN.del(h:cN es c f):cN (jr (.int .i64 x) es) c (dg f x none):=by
 obtain⟨l,rfl,o,j,t,k⟩:=h
 cases hf:f x with
 | none=>
   have z:x∉l.map Xe:=fun d=>by
    obtain⟨⟨y,v,n⟩,i,rfl⟩:=List.mem_map.1 d
    have:=(k y v).2 ⟨n,i⟩
    rw [hf]at this;cases this
   rw [del_miss z]
   refine⟨l,rfl,o,j,t,fun y u=>?_⟩
   unfold dg
   by_cases e:y=x
   . subst e;rw [if_pos rfl];exact⟨fun h=>(by cases h),fun⟨n,g⟩=>absurd (Xg (f:=Xe) g) z⟩
   . rw [if_neg e];exact k y u
 | some w=>
   obtain⟨m,d⟩:=(k x w).1 hf
   obtain⟨a,b,rfl,_,C⟩:=qO o d
   rw [C]
   have A:=o
   rw [rl,Xd]at A
   obtain⟨D,q,B⟩:=A
   rw [Xx]at q
   refine⟨a++b,rfl,?_,?_,fun p i=>t p ?_,fun y u=>?_⟩
   . rw [Xn,Xd]
     exact⟨D,q.2,fun u r v s=>B u r v (by simp [s])⟩
   . rw [Xn,Xi,Xd]at j
     rw [Xn,Xd]
     exact⟨j.1,(List.nodup_cons.1 j.2.1).2,fun u r v s=>j.2.2 u r v (List.mem_cons_of_mem _ s)⟩
   . rcases List.mem_append.1 i with i|i<;>simp [i]
   . unfold dg
     by_cases e:y=x
     . subst e
       rw [if_pos rfl]
       refine⟨fun h=>(by cases h),fun⟨n,g⟩=>?_⟩
       rcases List.mem_append.1 g with g|g
       . exact absurd rfl (B y (Xg (f:=Xe) g) y (by simp))
       . exact absurd (Xg (f:=Xe) g) q.1
     . rw [if_neg e,k]
       constructor<;>rintro⟨m,d⟩<;>refine⟨m,?_⟩
       . rcases List.mem_append.1 d with d|d
         . simp [d]
         . rcases List.mem_cons.1 d with d|d
           . cases d;exact absurd rfl e
           . simp [d]
       . rcases List.mem_append.1 d with d|d<;>simp [d]
theorem cN.ent(h:cN es c f)(z:Value): ∃d q n,(match aK (.int .i64 x) es with|none=>none|some (some (v,n))=>some (ip (.int .i64 x) v es,c,v,n)|some none=>some (es++[(.int .i64 x,z,c)],c+1,z,c))=some (d,q,(f x).getD z,n)/\cN d q (dg f x (some ((f x).getD z)))/\
 ∀w,∃es2,gT n w d=some es2/\cN es2 q (dg f x (some w)):=by
 cases hf:f x with
 | none=>
   rw [h.miss hf]
   obtain⟨l,rfl,g,i,j,o⟩:=h
   have k:=sj (w:=z) g i j o hf
   refine⟨_,_,_,rfl,by rw [em_app];exact k,fun w=>?_⟩
   rw [em_app]
   obtain⟨B,e,C,D,E,F⟩:=k
   have u:((l++(x,z,c)::[]).map fun p=>p.2.2).Nodup:=by
    rw [Xn,Xd]
    refine⟨i,by simp,fun a y b r e=>?_⟩
    simp at r;subst r
    obtain⟨p,A,rfl⟩:=List.mem_map.1 y
    have:=j p A;omega
   exact⟨_,rO u,sj g i j o hf⟩
 | some v=>
   obtain⟨l,rfl,g,i,j,o⟩:=h
   obtain⟨m,s⟩:=(o x v).1 hf
   rw [xu g s]
   obtain⟨a,b,rfl,t,_⟩:=qO g s
   refine⟨_,_,_,rfl,by rw [t];exact sO g i j o,fun w=>?_⟩
   rw [t]
   exact⟨_,rO (by simpa using i),sO g i j o⟩
end

section
variable{M:Nat->Prop}{h0 h:Hp}{L:List (Nat×Ob)}{G:List GL}{E:Env}{t kt el:TypeId}{b c:Nat}{es:List (Value×Value×Nat)}{f:Int->Option Value}{x:Int}
theorem qE(a:E.und kt=some (.int .i64)):aR E kt (.int .i64 x)=true:=by simp only [aR,a];rfl
theorem jT(a:E.und t=some (.map kt el))(d:E.und kt=some (.int .i64)){z:Value}(g:E.zeroV el=some z)(i:h.get b=some (.map es c))(m:cN es c f):
 c9 E h t (.map (some b)) (.int .i64 x) true=some (.tuple #[(f x).getD z,.bool (f x).isSome]):=by
 simp only [c9,a,qE d,cond_true,i]
 cases hf:f x with
 |none=>rw [m.miss hf];simp [g]
 |some v=>obtain⟨n,e⟩:=m.hit hf;rw [e];simp
theorem jy(a:E.und t=some (.map kt el))(d:E.und kt=some (.int .i64)){z:Value}(g:E.zeroV el=some z)(i:h.get b=some (.map es c))(m:cN es c f):
 c9 E h t (.map (some b)) (.int .i64 x) false=some ((f x).getD z):=by
 simp only [c9,a,qE d,cond_true,i]
 cases hf:f x with
 |none=>rw [m.miss hf];simp [g]
 |some v=>obtain⟨n,e⟩:=m.hit hf;rw [e];simp
theorem ni{x:Blk}{es':List (Value×Value×Nat)}{c':Nat}(a:h.get b=some x):(h.put b (.map es' c')).get b=some (.map es' c'):=by rw [Hp.get_put,if_pos ⟨rfl,by rw [a];rfl⟩]
theorem St.mputI(S:St M h0 h L G){i:Nat}(d:L[i]? =some (b,.map es c))(g:E.und t=some (.map kt el))(j:E.und kt=some (.int .i64))(m:cN es c f)(v:Value):
 ∃h',dD E h t (.map (some b)) (.int .i64 x) v=some h'/\Mo (· =b) h h'/\ ∃es' c',cN es' c' (dg f x (some v))/\St M h0 h' (L.set i (b,.map es' c')) G:=by
 have e:h.get b=some (.map es c):=(S.own _ (Xc d)).2
 obtain⟨es',c',a,k⟩:=m.put (x:=x) v
 refine⟨h.put b (.map es' c'),?_,(Mo.refl (M:=(· =b)) S.ok).put (.inr rfl) _,es',c',k,S.put d (o':=.map es' c') (ni e)⟩
 simp only [dD,iN,g,qE j,cond_true,e]
 revert a
 cases aK (.int .i64 x) es with
 |none=>intro a;cases a
 | some r=>cases r with
   |none=>intro a;cases a;rfl
   |some _=>intro a;cases a;rfl
theorem St.mdelI(S:St M h0 h L G){i:Nat}(a:L[i]? =some (b,.map es c))(g:E.und t=some (.map kt el))(j:E.und kt=some (.int .i64))(m:cN es c f):
 ∃h',kA E h t (.map (some b)) (.int .i64 x)=some h'/\Mo (· =b) h h'/\ ∃es' c',cN es' c' (dg f x none)/\St M h0 h' (L.set i (b,.map es' c')) G:=by
 have d:h.get b=some (.map es c):=(S.own _ (Xc a)).2
 refine⟨h.put b (.map (jr (.int .i64 x) es) c),?_,(Mo.refl (M:=(· =b)) S.ok).put (.inr rfl) _,_,c,m.del (x:=x),S.put a (o':=.map _ c) (ni d)⟩
 simp only [kA,iN,g,qE j,cond_true,d]
 cases hf:f x with
 |none=>rw [m.miss hf]
 |some v=>obtain⟨n,e⟩:=m.hit hf;rw [e]
theorem St.mentI(S:St M h0 h L G){i:Nat}(g:L[i]? =some (b,.map es c))(k:E.und t=some (.map kt el))(l:E.und kt=some (.int .i64)){z:Value}(o:E.zeroV el=some z)(m:cN es c f):
 ∃ h' n,iV E h t (.map (some b)) (.int .i64 x)=some (h',.tuple #[(f x).getD z,.int .i64 (Ym n)])/\Mo (· =b) h h'/\ ∃es' c',cN es' c' (dg f x (some ((f x).getD z)))/\St M h0 h' (L.set i (b,.map es' c')) G/\
   ∀w,∃es2,gT n w es'=some es2/\cN es2 c' (dg f x (some w)):=by
 have j:h.get b=some (.map es c):=(S.own _ (Xc g)).2
 obtain⟨es',c',n,e,p,s⟩:=m.ent (x:=x) z
 refine⟨h.put b (.map es' c'),n,?_,(Mo.refl (M:=(· =b)) S.ok).put (.inr rfl) _,es',c',p,S.put g (o':=.map es' c') (ni j),s⟩
 simp only [iV,iN,k,qE l,cond_true,j,o]
 revert e
 cases aK (.int .i64 x) es with
 |none=>intro e;cases e
 | some r=>cases r with
   |none=>intro e;simp only [Option.some.injEq,Prod.mk.injEq]at e;obtain⟨a,b,c,d⟩:=e;subst a b d;rw [<-c]
   |some q=>obtain⟨u,v⟩:=q;intro e;simp only [Option.some.injEq,Prod.mk.injEq]at e;obtain⟨a,b,c,d⟩:=e;subst a b d;rw [<-c]
theorem St.mstoreI(S:St M h0 h L G){i n:Nat}(a:L[i]? =some (b,.map es c)){w:Value}{es2:List (Value×Value×Nat)}(e:gT n w es=some es2):
 ∃h',j6 h (.map (some b)) (.int .i64 (Ym n)) w=some h'/\Mo (· =b) h h'/\St M h0 h' (L.set i (b,.map es2 c)) G:=by
 have d:h.get b=some (.map es c):=(S.own _ (Xc a)).2
 refine⟨h.put b (.map es2 c),?_,(Mo.refl (M:=(· =b)) S.ok).put (.inr rfl) _,S.put a (o':=.map es2 c) (ni d)⟩
 simp only [j6,d,fG,e]
end
end Go.Ab

end
section
namespace Go.Ab
def jH(x:Hd):List Value:=[.int .i64 x.id,.int .i64 x.key]
theorem ju(x:Hd):(jH x).length=2:=rfl
structure dA(cs:List Value)(cap:Nat)(l:List Hd):Prop where
 len:cs.length=cap*2
 le:l.length<=cap
 at0: ∀i,i<l.length->cs[i*2]? =some (.int .i64 (l.getD i default).id)/\cs[i*2+1]? =some (.int .i64 (l.getD i default).key)
def jo(f:Int->Option Value)(l:List Hd):Prop:=(∀i,i<l.length->f (l.getD i default).id=some (.int .i64 i))/\ ∀x v,f x=some v-> ∃i,i<l.length/\x=(l.getD i default).id
section
variable{h:Hp}{bl cap i:Nat}{cs:List Value}{l:List Hd}{md:Nat}
theorem dA.ld0(c:dA cs cap l)(r:Row h bl cs md)(a:i<l.length):h.load bl (i*2) 1=some [.int .i64 (l.getD i default).id]:=r.load1 (c.at0 i a).1
theorem dA.ld1(c:dA cs cap l)(r:Row h bl cs md)(a:i<l.length):h.load bl (i*2+1) 1=some [.int .i64 (l.getD i default).key]:=r.load1 (c.at0 i a).2
theorem dA.ld2(c:dA cs cap l)(r:Row h bl cs md)(a:i<l.length):h.load bl (i*2) 2=some [.int .i64 (l.getD i default).id,.int .i64 (l.getD i default).key]:=by
 have d:=(c.at0 i a).1
 have b:=(c.at0 i a).2
 have e:=(List.getElem?_eq_some_iff.1 b).1
 rw [r.load (by omega)]
 congr 1
 rw [XU (by omega),XU (by omega)]
 simp only [List.take_succ_cons,List.take_zero]
 rw [(List.getElem?_eq_some_iff.1 d).2,(List.getElem?_eq_some_iff.1 b).2]
theorem sG{x y:Value}(c:i*2+2<=cs.length)(j:Nat):(lay cs (i*2) [x,y])[j]? =if j=i*2 then some x else if j=i*2+1 then some y else cs[j]? :=by
 rw [iZ (by simpa using c)]
 simp only [List.length_cons,X7]
 by_cases a:j=i*2
 . subst a;simp
 . by_cases b:j=i*2+1
   . subst b;simp
   . rw [if_neg a,if_neg b,if_neg (by omega)]
theorem dA.set(c:dA cs cap l)(d:i<l.length)(x:Hd):dA (lay cs (i*2) [.int .i64 x.id,.int .i64 x.key]) cap (l.set i x):=by
 have f:=c.len
 have hle:=c.le
 have a:i*2+2<=cs.length:=by omega
 refine⟨by rw [nj (by simpa using a)];exact f,by rw [Xh];exact hle,fun j b=>?_⟩
 rw [Xh]at b
 rw [sG a,sG a,jt]
 by_cases e:i=j
 . subst e;simp [d]
 . rw [if_neg (by omega),if_neg (by omega),if_neg (by omega),if_neg (by omega),if_neg (by omega)]
   exact c.at0 j b
theorem dA.setKey(c:dA cs cap l)(a:i<l.length)(k:Int):dA (lay cs (i*2+1) [.int .i64 k]) cap (l.set i ⟨(l.getD i default).id,k⟩):=by
 have f:=c.len
 have hle:=c.le
 have e:lay cs (i*2+1) [.int .i64 k]=lay cs (i*2) [.int .i64 (l.getD i default).id,.int .i64 k]:=by
  refine Xq fun j=>?_
  rw [sG (by omega),iZ (by simp;omega)]
  simp only [List.length_cons,X7]
  by_cases b:j=i*2
  . subst b;rw [if_neg (by omega),if_pos rfl];exact(c.at0 i a).1
  . by_cases d:j=i*2+1
    . subst d;rw [if_pos (by omega)];simp
    . rw [if_neg (by omega),if_neg b,if_neg d]
 rw [e]
 exact c.set a ⟨(l.getD i default).id,k⟩
end
theorem set_sw(l:List Hd)(i k:Nat):(l.set i (l.getD k default)).set k (l.getD i default)=sw l i k:=rfl
theorem jo.inj{f:Int->Option Value}{l:List Hd}(h:jo f l){i j:Nat}(b:i<l.length)(c:j<l.length)(e:(l.getD i default).id=(l.getD j default).id):i=j:=by
 have a:=h.1 i b
 have d:=h.1 j c
 rw [e,d]at a
 injection a with a
 injection a with _ a
 omega
theorem jo.swap{f:Int->Option Value}{l:List Hd}(h:jo f l){i k:Nat}(c:i<l.length)(g:k<l.length):
 jo (dg (dg f ((sw l i k).getD i default).id (some (.int .i64 i))) ((sw l i k).getD k default).id (some (.int .i64 k))) (sw l i k):=by
 have m:=ia l c g i
 have p:=ia l c g k
 rw [if_pos rfl]at p
 refine⟨fun j n=>?_,fun x v q=>?_⟩
 . rw [fU]at n
   have d:=ia l c g j
   unfold dg
   by_cases a:j=k
   . subst a;rw [if_pos rfl]
   . rw [if_neg a]at d
     by_cases b:j=i
     . subst b
       rw [if_neg,if_pos rfl]
       rw [if_neg a,if_pos rfl]at m
       rw [m,p]
       intro e
       exact a (h.inj g c (by omega)).symm
     . rw [if_neg b]at d
       rw [if_neg,if_neg]
       . rw [d];exact h.1 j n
       . rw [d,m]
         intro e
         split at e
         . exact b (h.inj n c (by omega))
         . rename_i e3;rw [if_pos rfl]at e;exact a (h.inj n g (by omega))
       . rw [d,p]
         intro e
         exact b (h.inj n c (by omega))
 . unfold dg at q
   by_cases a:x=((sw l i k).getD k default).id
   . exact⟨k,by rw [fU];exact g,a⟩
   . rw [if_neg a]at q
     by_cases b:x=((sw l i k).getD i default).id
     . exact⟨i,by rw [fU];exact c,b⟩
     . rw [if_neg b]at q
       obtain⟨j,n,e⟩:=h.2 x v q
       refine⟨j,by rw [fU];exact n,?_⟩
       have d:=ia l c g j
       by_cases e3:j=k
       . subst e3
         exfalso
         rw [e]at b
         by_cases o:i=j
         . subst o;rw [if_pos rfl]at m;exact b (by rw [m])
         . rw [if_neg o,if_pos rfl]at m;exact b (by rw [m])
       . by_cases o:j=i
         . subst o;exfalso;rw [p]at a;exact a e
         . rw [if_neg e3,if_neg o]at d;rw [d];exact e
structure eC(h:Hp)(bh bl bm cap:Nat)(n:Int)(l:List Hd):Prop where
 row:Row h bh [.slice (some ⟨bl,0,some 2⟩) l.length cap,.map (some bm),.int .i64 n] 1
 ex: ∃cs es c f,Row h bl cs 1/\h.get bm=some (.map es c)/\dA cs cap l/\cN es c f/\jo f l
 ne:bh≠bl/\bh≠bm/\bl≠bm
theorem eC.mo{M:Nat->Prop}{h h':Hp}{e i j cap:Nat}{n:Int}{l:List Hd}(r:eC h e i j cap n l)(g:Mo M h h')(m: ¬M e)(p: ¬M i)(h3: ¬M j):eC h' e i j cap n l:=by
 obtain⟨q,k,c,f,a,b,d⟩:=r.ex
 exact⟨g.has (o:=.row _ 1) r.row m,⟨q,k,c,f,g.has (o:=.row _ 1) a p,g.has (o:=.map k c) b h3,d⟩,r.ne⟩
theorem eC.mo1{M:Nat->Prop}{h h':Hp}{a b d cap:Nat}{n:Int}{l:List Hd}(r:eC h a b d cap n l)(g:Mo M h h')(e: ∀c,c=a\/c=b\/c=d-> ¬M c):eC h' a b d cap n l:=
 r.mo g (e _ (.inl rfl)) (e _ (.inr (.inl rfl))) (e _ (.inr (.inr rfl)))
theorem eC.lt{h:Hp}(e:h.t.Sized h.n){g i j cap:Nat}{n:Int}{l:List Hd}(r:eC h g i j cap n l): ∀c,c=g\/c=i\/c=j->c<h.n:=by
 obtain⟨k,m,c,f,a,b,d⟩:=r.ex
 rintro c (rfl|rfl|rfl)
 . exact r.row.lt e
 . exact a.lt e
 . exact eZ e b
theorem eC.gr{h h':Hp}{a b c cap:Nat}{n:Int}{l:List Hd}(r:eC h a b c cap n l)(g:Gr h h'):eC h' a b c cap n l:=r.mo (M:=NoM) g.fr (fun h=>h) (fun h=>h) (fun h=>h)
theorem St.init2{M:Nat->Prop}{h:Hp}(c:h.t.Sized h.n){b1 b2:Nat}{o1 o2:Ob}(d:Has h b1 o1)(e:Has h b2 o2)(a:b1≠b2)(m1:M b1)(m2:M b2):St M h h [(b1,o1),(b2,o2)] []:=by
 refine⟨Mo.refl c,fun p b=>?_,fun _ h=>(by cases h),by simp [keys,a]⟩
 simp only [Xw,XK,or_false]at b
 rcases b with rfl|rfl
 . exact⟨.inr m1,d⟩
 . exact⟨.inr m2,e⟩
theorem St.init3{M:Nat->Prop}{h:Hp}(b:h.t.Sized h.n){b1 b2 b3:Nat}{o1 o2 o3:Ob}(c:Has h b1 o1)(d:Has h b2 o2)(h3:Has h b3 o3)(e:b1≠b2)(f:b1≠b3)(g:b2≠b3)(m1:M b1)(m2:M b2)(m3:M b3):St M h h [(b1,o1),(b2,o2),(b3,o3)] []:=by
 refine⟨Mo.refl b,fun p a=>?_,fun _ h=>(by cases h),by simp [keys,e,f,g]⟩
 simp only [Xw,XK,or_false]at a
 rcases a with rfl|rfl|rfl
 . exact⟨.inr m1,c⟩
 . exact⟨.inr m2,d⟩
 . exact⟨.inr m3,h3⟩
end Go.Ab

end
section
namespace Go.Ab
open Go.Proofs
set_option maxRecDepth 10000
def Tryz.FB:=aj t1<|aj t2<|aj t3<|aj t4<|aj t5<|aj t6<|aj Z3<|aj Z5<|t33
def Tryz.F0e:=aj t1<|aj t2<|aj t3<|aj t4<|aj t33<|aj t218<|aj t337<|aj Z6<|aj Z10<|t357
def Tryz.FU:=aj t1<|aj t2<|aj t3<|aj t218<|aj t337<|aj Z6<|aj Z10<|t357
def jZ(a b:Int):Int:=if a<b then-1 else if b<a then 1 else 0
theorem wL{h0:Hp}(b:h0.t.Sized h0.n){a:Int}:bI zM 159 [.int .i64 a] h0 (.bool false):=by
 have S:=Si b
 refine ae (n:=6) (rs:=[.tmp 2]) rfl Tryz.e159 rfl rfl rfl (lbt rfl) ?_
 simp only [BS,LB,ac,Nat.reduceLT,Nat.reduceEqDiff]
 exact S.gr
theorem nanI_ok{h0:Hp}(b:h0.t.Sized h0.n){a:Int}:bI zM 283 [.int .i64 a] h0 (.bool false):=by
 have S:=Si b
 refine ae (n:=6) (rs:=[.tmp 2]) rfl Tryz.e283 rfl rfl rfl (lbt rfl) ?_
 simp only [BS,LB,ac,Nat.reduceLT,Nat.reduceEqDiff]
 exact S.gr
theorem yB{h0:Hp}(e:h0.t.Sized h0.n){a b:Int}:bI zM 84 [.int .i64 a,.int .i64 b] h0 (.int .i64 (jZ a b)):=by
 have S:=Si e
 unfold jZ
 refine ae (n:=20) (rs:=[.tmp 4]) rfl Tryz.e84 rfl rfl rfl (lbt rfl) ?_
 simp only [BS,LB,Nat.reduceLT,Nat.reduceEqDiff]
 refine an (wL S.ok) ?_;intro h g;replace S:=S.call g;clear g
 simp only [BS,LB,Nat.reduceLT,Nat.reduceEqDiff]
 refine an (wL S.ok) ?_;intro h g;replace S:=S.call g;clear g
 by_cases c:a<b
 . simp only [BS,LB,ac,Nat.reduceLT,Nat.reduceEqDiff,c]
   exact S.gr
 . by_cases d:b<a
   . simp only [BS,LB,ac,Nat.reduceLT,Nat.reduceEqDiff,c,d]
     exact S.gr
   . simp only [BS,LB,ac,Nat.reduceLT,Nat.reduceEqDiff,c,d]
     exact S.gr
theorem cmpInt_ok{h0:Hp}(e:h0.t.Sized h0.n){a b:Int}:bI zM 277 [.int .i64 a,.int .i64 b] h0 (.int .i64 (jZ a b)):=by
 have S:=Si e
 unfold jZ
 refine ae (n:=20) (rs:=[.tmp 4]) rfl Tryz.e277 rfl rfl rfl (lbt rfl) ?_
 simp only [BS,LB,Nat.reduceLT,Nat.reduceEqDiff]
 refine an (nanI_ok S.ok) ?_;intro h g;replace S:=S.call g;clear g
 simp only [BS,LB,Nat.reduceLT,Nat.reduceEqDiff]
 refine an (nanI_ok S.ok) ?_;intro h g;replace S:=S.call g;clear g
 by_cases c:a<b
 . simp only [BS,LB,ac,Nat.reduceLT,Nat.reduceEqDiff,c]
   exact S.gr
 . by_cases d:b<a
   . simp only [BS,LB,ac,Nat.reduceLT,Nat.reduceEqDiff,c,d]
     exact S.gr
   . simp only [BS,LB,ac,Nat.reduceLT,Nat.reduceEqDiff,c,d]
     exact S.gr
theorem or2_ok{h0:Hp}(p:h0.t.Sized h0.n){v:Value}{a b:Int}(g:az h0 1 (encI .i64) v [a,b]):bI zM 276 [v] h0 (.int .i64 (if a=0 then b else a)):=by
 have S:=Si p
 obtain⟨h,j,q,e⟩:=g.ix (kd:=.i64) (eR .i64) (i:=0) (by simp)
 obtain⟨k,l,r,f⟩:=g.ix (kd:=.i64) (eR .i64) (i:=1) (by simp)
 have c:idxS (some 1) v (.int .i64 0)=some (.pointer (some ⟨h,j,none⟩)):=q
 have d:idxS (some 1) v (.int .i64 1)=some (.pointer (some ⟨k,l,none⟩)):=r
 replace e:h0.load h j 1=some [.int .i64 a]:=e
 replace f:h0.load k l 1=some [.int .i64 b]:=f
 have s:aq .i64 1=1:=rfl
 have t:aq .i64 2=2:=rfl
 refine ae (n:=18) (rs:=[.tmp 2]) rfl Tryz.e276 rfl rfl rfl (lbt rfl) ?_
 simp only [BS,LB,Nat.reduceLT,Nat.reduceEqDiff,Nat.reduceAdd,Xa,FB,g.lenq]
 rw [aZ]
 by_cases m:a=0
 . simp only [BS,LB,Nat.reduceLT,Nat.reduceEqDiff,Int.reduceLT,Int.reduceAdd,FB,c,e,m,s]
   rw [aZ]
   by_cases o:b=0
   . simp only [BS,LB,Nat.reduceLT,Nat.reduceEqDiff,Int.reduceLT,Int.reduceAdd,FB,d,f,o,t]
     rw [aZ]
     simp only [BS,LB,ac,Nat.reduceLT,Nat.reduceEqDiff,Int.reduceLT]
     exact S.gr
   . simp only [BS,LB,ac,Nat.reduceLT,Nat.reduceEqDiff,Int.reduceLT,FB,d,f,o]
     exact S.gr
 . simp only [BS,LB,ac,Nat.reduceLT,Nat.reduceEqDiff,Int.reduceLT,FB,c,e,m]
   exact S.gr
theorem xU{h0:Hp}(t:h0.t.Sized h0.n){u w B cap:Nat}{n:Int}{l:List Hd}(R:eC h0 u w B cap n l){i k:Nat}(r:i<l.length)(s:k<l.length):
 bI zM 265 [ptrTo u,.int .i64 i,.int .i64 k] h0 (.bool (decide (hlt (l.getD i default) (l.getD k default)))):=by
 have S:=Si t
 obtain⟨E,F,c,f,d,G,C,H,I⟩:=R.ex
 have a:=R.row.load1 (o:=0) rfl
 have e:=C.ld0 d r
 have j:=C.ld1 d r
 have m:=C.ld0 d s
 have p:=C.ld1 d s
 refine ae (n:=44) (rs:=[.tmp 6]) rfl Tryz.e265 rfl rfl rfl (lbt rfl) ?_
 simp only [BS]
 refine aE (aJ rfl) (q:=17179869184) (ps:=[(16,32),(16,28),(16,24),(16,20)]) (by kernel_rfl) ?_
 simp only [BS,LB,cls,Nat.reduceLT,Nat.reduceEqDiff,Nat.reduceAdd,Nat.reducePow,Nat.reduceDiv,Nat.reduceMod,Nat.reduceLeDiff,F0e,a,r,s,j,p]
 refine cD (yB S.ok) ?_
 intro h g;replace S:=S.call g
 replace a:=g.load a;replace e:=g.load e;replace j:=g.load j;replace m:=g.load m;replace p:=g.load p
 have x:leaves _ _ w=true:=ao g (d.lt t)
 have y:leaves _ _ u=true:=ao g (R.row.lt t)
 clear g
 simp only [BS,LB,cls,Nat.reduceLT,Nat.reduceEqDiff,Nat.reduceAdd,Nat.reducePow,Nat.reduceDiv,Nat.reduceMod,Nat.reduceLeDiff,F0e,a,r,s,e,m]
 refine cD (cmpInt_ok S.ok) ?_
 intro J g;replace S:=S.call g
 replace a:=g.load a;replace e:=g.load e;replace j:=g.load j;replace m:=g.load m;replace p:=g.load p
 clear g
 simp only [BS,LB,cls,Nat.reduceLT,Nat.reduceEqDiff,Nat.reduceAdd,Nat.reducePow,Nat.reduceDiv,Nat.reduceMod,Nat.reduceLeDiff]
 refine df (cB (by exact Tryz.t33.1) (by exact Yr) (by decide) (by rfl)) S ?_;clear S;intro h v S z A;simp only [LC,bq,bV,ag,Nat.reduceMul,Nat.reduceAdd,XB,Xv,Xz,Ya]at S
 simp only [BS,LB,cls,Nat.reduceLT,Nat.reduceEqDiff,Nat.reduceAdd,Nat.reducePow,Nat.reduceDiv,Nat.reduceMod,Nat.reduceLeDiff]
 have D:az h 1 (encI .i64) (.slice (some ⟨v,0,none⟩) 2 2) [jZ (l.getD i default).key (l.getD k default).key,jZ (l.getD i default).id (l.getD k default).id]:=.inr ⟨v,0,none,2,rfl,XJ _,S.lds (b:=v) (o:=0) (n:=2*1) m0 (lbt rfl)⟩
 refine cD (or2_ok S.ok D) ?_
 intro K g;replace S:=S.call g;clear g
 simp only [BS,LB,cls,ac,Nat.reduceLT,Nat.reduceEqDiff,Nat.reduceAdd,Nat.reducePow,Nat.reduceDiv,Nat.reduceMod,Nat.reduceLeDiff]
 refine⟨by simp only [bj,bA,aS,bK,aY,ne_eq,not_false_eq_true,bJ,cb,a9,aX,cu,cR,aO,Nat.reduceLT,Nat.reduceEqDiff,reduceIte,Yi,ab,av x,av y,au x,au y],?_⟩
 have e3:decide ((if jZ (l.getD i default).key (l.getD k default).key=0 then jZ (l.getD i default).id (l.getD k default).id else jZ (l.getD i default).key (l.getD k default).key)<0)=decide (hlt (l.getD i default) (l.getD k default)):=by
  congr 1
  rw [eq_iff_iff]
  unfold jZ hlt
  repeat' split
  all_goals omega
 exact⟨by rw [e3],S.gr⟩
theorem ra{h0:Hp}(ok:h0.t.Sized h0.n){u d g cap:Nat}{n:Int}{l:List Hd}(R:eC h0 u d g cap n l){i k:Nat}(t:i<l.length)(p:k<l.length):
 Ret zM 247 [ptrTo u,.int .i64 i,.int .i64 k] h0 fun v h'=>Mo (fun c=>c=d\/c=g) h0 h'/\eC h' u d g cap n (sw l i k):=by
 obtain⟨X,es,c,f,F,hm,C,MI,IF⟩:=R.ex
 have S:=St.init2 (M:=fun c=>c=d\/c=g) ok (o1:=.row X 1) (o2:=.map es c) F hm R.ne.2.2 (.inl rfl) (.inr rfl)
 have E: ¬(u=d\/u=g):=fun h=>h.elim R.ne.1 R.ne.2.1
 have G:=R.row.load1 (o:=0) rfl
 have r1:=R.row.load1 (o:=1) rfl
 have i2:=C.ld2 F t
 have k2:=C.ld2 F p
 have Y:=C.len
 have ad:=C.le
 refine ae (n:=62) (rs:=[]) rfl Tryz.e247 rfl rfl rfl (lbt rfl) ?_
 simp only [BS]
 refine aE (aJ rfl) (q:=0) (ps:=[]) (by kernel_rfl) ?_
 simp only [BS,LB,cls,Nat.reduceLT,Nat.reduceEqDiff,Nat.reduceAdd,Nat.reducePow,Nat.reduceDiv,Nat.reduceMod,Nat.reduceLeDiff,FU,G,t,p,i2,k2]
 refine dP (S.store (i:=0) rfl Tryz.t344.2.1 (by intro x e;cases e) rfl rfl (by omega) ono) ?_
 clear S;rintro h ⟨S,r⟩;clear r
 have H:=C.set t (l.getD k default)
 simp only [LC,ag]at S
 have j:=S.old G E
 simp only [BS,LB,cls,Nat.reduceLT,Nat.reduceEqDiff,Nat.reduceAdd,Nat.reducePow,Nat.reduceDiv,Nat.reduceMod,Nat.reduceLeDiff,FU,p]
 generalize lay X (i*2) _=I at S H
 have af:=H.len
 refine dP (S.store (i:=0) (off:=k*2) rfl Tryz.t344.2.1 (by intro x e;cases e) rfl rfl (by omega) ono) ?_
 clear S;rintro h ⟨S,r⟩;clear r
 have y:=H.set (i:=k) (by rw [Xh];exact p) (l.getD i default)
 simp only [LC,ag]at S
 generalize lay I (k*2) _=s at S y
 rw [set_sw]at y
 clear j
 have j:=S.old G E
 have A:=S.old r1 E
 have J:i<(sw l i k).length:=by rw [fU];exact t
 have K:k<(sw l i k).length:=by rw [fU];exact p
 have Z:=y.ld0 (S.row m0) J
 have ak:=y.ld0 (S.row m0) K
 simp only [BS,LB,Nat.reduceAdd]
 refine aE (aJ rfl) (q:=0) (ps:=[]) (by kernel_rfl) ?_
 simp only [BS,LB,cls,Nat.reduceLT,Nat.reduceEqDiff,Nat.reduceAdd,Nat.reducePow,Nat.reduceDiv,Nat.reduceMod,Nat.reduceLeDiff,FU,j,A,t,p,Z,ak]
 refine jE (P:=fun h' v=> ∃n a m,v=.tuple #[(f ((sw l i k).getD i default).id).getD (.int .i64 0),.int .i64 (Ym n)]/\St (fun c=>c=d\/c=g) h0 h' [(d,.row s 1),(g,.map a m)] []/\ ∀w,∃b,gT n w a=some b/\cN b m (dg f ((sw l i k).getD i default).id (some w))) ?_ ?_
 . obtain⟨h',n,L,_,a,m,_,N,O⟩:=S.mentI (i:=1) (x:=(((sw l i k).getD i default).id:Int)) rfl Tryz.t218.1 Tryz.t3.1 (z:=.int .i64 0) (by kernel_rfl) MI
   exact⟨h',_,L,n,a,m,rfl,N,O⟩
 clear S Z ak j A
 rintro h v ⟨s1,al,c1,rfl,S,Q⟩
 obtain⟨b,T,U⟩:=Q (.int .i64 i)
 simp only [BS,LB,cls,Nat.reduceLT,Nat.reduceEqDiff,Nat.reduceAdd,Nat.reducePow,Nat.reduceDiv,Nat.reduceMod,Nat.reduceLeDiff,Ye]
 refine dP (S.mstoreI (i:=1) rfl T) ?_
 clear S;rintro h ⟨r,S⟩;clear r
 simp only [LC]at S
 simp only [BS,LB,cls,Nat.reduceLT,Nat.reduceEqDiff,Nat.reduceAdd,Nat.reducePow,Nat.reduceDiv,Nat.reduceMod,Nat.reduceLeDiff]
 refine jE (P:=fun h' v=> ∃n a m,v=.tuple #[(dg f ((sw l i k).getD i default).id (some (.int .i64 i)) ((sw l i k).getD k default).id).getD (.int .i64 0),.int .i64 (Ym n)]/\St (fun c=>c=d\/c=g) h0 h' [(d,.row s 1),(g,.map a m)] []/\ ∀w,∃b,gT n w a=some b/\cN b m (dg (dg f ((sw l i k).getD i default).id (some (.int .i64 i))) ((sw l i k).getD k default).id (some w))) ?_ ?_
 . obtain⟨h',n,L,_,a,m,_,N,O⟩:=S.mentI (i:=1) (x:=(((sw l i k).getD k default).id:Int)) rfl Tryz.t218.1 Tryz.t3.1 (z:=.int .i64 0) (by kernel_rfl) U
   exact⟨h',_,L,n,a,m,rfl,N,O⟩
 clear S
 rintro h v ⟨s2,ax,c3,rfl,S,B⟩
 obtain⟨V,D,W⟩:=B (.int .i64 k)
 simp only [BS,LB,cls,Nat.reduceLT,Nat.reduceEqDiff,Nat.reduceAdd,Nat.reducePow,Nat.reduceDiv,Nat.reduceMod,Nat.reduceLeDiff,Ye]
 refine dP (S.mstoreI (i:=1) rfl D) ?_
 clear S;rintro h ⟨r,S⟩;clear r
 simp only [LC]at S
 simp only [BS,LB,Nat.reduceAdd]
 refine⟨S.fr,?_,⟨s,V,c3,_,S.row m0,(S.own _ m1).2,y,W,IF.swap t p⟩,R.ne⟩
 rw [fU]
 exact S.fr.has (o:=.row _ 1) R.row E
theorem up_ok{h0:Hp}(t:h0.t.Sized h0.n){b d e cap:Nat}{n:Int}{l:List Hd}(R:eC h0 b d e cap n l){i:Nat}(r:i<l.length)(x:l.length<1000000)(U:pQ l i):
 Ret zM 245 [ptrTo b,.int .i64 i] h0 fun v h'=>Mo (fun c=>c=d\/c=e) h0 h'/\ ∃l',eC h' b d e cap n l'/\l'.Perm l/\kP l':=by
 refine ae (n:=23) (rs:=[]) rfl Tryz.e245 rfl rfl rfl (lbt rfl) ?_
 simp only [BS]
 refine cm (fun(i:Nat) m h=>i<l.length/\Mo (fun c=>c=d\/c=e) h0 h/\ ∃l',eC h b d e cap n l'/\l'.Perm l/\pQ l' i/\m 0=ptrTo b/\m 1=.int .i64 i) (fun i=>i) ?_ i _ _ ?_
 . intro i u m h ⟨r,a,l',R,pm,U,r0,r1⟩
   have s:=pm.length_eq
   by_cases o:i=0
   . subst o
     simp only [BS,LB,Nat.reduceLT,Nat.reduceEqDiff,Int.reduceLT,Xa,r1]
     exact⟨a,l',R,pm,up_done U (.inl rfl)⟩
   . have w:(0:Int)<(i:Int):=by omega
     have p:aq .i64 ((i:Int)-1)=((i-1:Nat):Int):=by rw [wrap64]<;>omega
     have q:aq .i64 (((i-1:Nat):Int).tdiv 4)=(((i-1)/4:Nat):Int):=by
      rw [Int.tdiv_eq_ediv_of_nonneg (by omega),show(((i-1:Nat):Int)/4)=(((i-1)/4:Nat):Int) by omega,wrap64]<;>omega
     simp only [BS,LB,Nat.reduceLT,Nat.reduceEqDiff,r0,r1,w,p,q,b_quo (n:=4) (by decide)]
     refine an (xU a.ok R (i:=i) (k:=(i-1)/4) (by omega) (by omega)) ?_
     intro h g;replace R:=R.gr g;replace a:=a.trans (M':=NoM) g.fr (fun _ h=>h.elim);clear g
     by_cases j:hlt (l'.getD i default) (l'.getD ((i-1)/4) default)
     . simp only [BS,LB,Nat.reduceLT,Nat.reduceEqDiff,r0,r1,p,q,b_quo (n:=4) (by decide),j]
       refine step_ret (ra a.ok R (i:=i) (k:=(i-1)/4) (by omega) (by omega)) ?_
       rintro v h ⟨f,R⟩
       replace a:=a.trans f (fun _ h=>.inl h)
       simp only [BS,LB,Nat.reduceLT,Nat.reduceEqDiff,r1,p,q,b_quo (n:=4) (by decide)]
       exact u ((i-1)/4) _ _ (by omega) ⟨by omega,a,_,R,(rG l' (by omega) (by omega)).trans pm,up_step (by omega) U (by omega) j,by simp [aa,r0,ab],by simp [aa]⟩
     . simp only [BS,LB,Nat.reduceLT,Nat.reduceEqDiff,b_quo (n:=4) (by decide),j]
       exact⟨a,l',R,pm,up_done U (.inr (tN j))⟩
 . exact⟨r,Mo.refl t,l,R,.refl _,U,by simp [bR,ab],by simp [bR,cJ]⟩
def Tryz.FI:=aj t1<|aj t2<|aj t3<|aj t4<|aj t196<|aj t218<|aj t337<|aj Z6<|aj Z10<|t357
def Tryz.Fo:=aj t1<|aj t2<|aj t3<|aj t4<|aj t5<|aj t6<|aj Z3<|aj Z5<|aj t9<|aj t12<|aj Z15<|aj t95<|aj t218<|aj t250<|aj t337<|aj Z6<|t357
theorem St.monoM{M:Nat->Prop}{h0 h:Hp}{L:List (Nat×Ob)}{G:List GL}(S:St NoM h0 h L G):St M h0 h L G:=
 ⟨S.fr.mono (fun _ h=>h.elim),fun p a=>⟨(S.own p a).1.imp (fun h=>h) (fun h=>h.elim),(S.own p a).2⟩,fun p a=>⟨(S.gown p a).1,fun b c=>((S.gown p a).2 b c).imp (fun h=>h) (fun h=>h.elim)⟩,S.apart⟩
theorem below_ok{h0:Hp}(d:h0.t.Sized h0.n){c i:Nat}:Ret zM 266 [ptrTo c,.int .i64 i] h0 fun v h'=>Gr h0 h'/\ ∃b1 b2,v=.func (.func 278) #[] #[ptrTo b1,ptrTo b2]/\h0.n<=b1/\h0.n<=b2/\h'.load b1 0 1=some [.int .i64 i]/\h'.load b2 0 1=some [ptrTo c]:=by
 have S:=Si d
 refine ae (n:=6) (rs:=[.tmp 4]) rfl Tryz.e266 rfl rfl rfl (lbt rfl) ?_
 simp only [BS,Nat.reduceLT]
 refine ah (cP (by exact dC)) S ?_;clear S;intro h b2 S a
 simp only [BS,Nat.reduceLT,Nat.reduceEqDiff,if_false]
 refine ah (cP (by exact bM)) S ?_;clear S;intro h b1 S b
 simp only [BS,LB,ac,Nat.reduceLT,Nat.reduceEqDiff]
 exact⟨S.gr,b1,b2,rfl,b,a,S.ld m0 rfl,S.ld m1 rfl⟩
theorem zK{h0:Hp}(b:h0.t.Sized h0.n){b1 b2 k i n cap:Nat}{p:Addr}(e:h0.load b1 0 1=some [.int .i64 i])(q:h0.load b2 0 1=some [ptrTo k])(z:h0.load k 0 1=some [.slice (some p) n cap])(H:n<1000000)(I:i<1000000):
 Iter zM 278 [] [ptrTo b1,ptrTo b2] h0 (fun c=>c=b1\/c=b2\/c=k) ((XG (min 4 (n-(4*i+1)))).map fun j=>[.int .i64 ((4*i+1+j:Nat):Int)]):=by
 refine rj fun A J Z Y h F s l=>?_
 refine enter (n:=28) (rs:=[]) rfl Tryz.e278 rfl rfl rfl (lbt rfl) ?_
 have d:=s.load b e (.inl rfl)
 have m:aq .i64 (4*(i:Int))=((4*i:Nat):Int):=by rw [wrap64]<;>omega
 have B:aq .i64 (((4*i:Nat):Int)+1)=((4*i+1:Nat):Int):=by rw [wrap64]<;>omega
 have r:aq .i64 (((4*i:Nat):Int)+4)=((4*i+4:Nat):Int):=by rw [wrap64]<;>omega
 simp only [BS,LB,Nat.reduceLT,Nat.reduceEqDiff,FI,d,m,B]
 refine cm (fun(j:Nat) f h=>j<=min 4 (n-(4*i+1))/\ ∃F,ItS h0 (fun c=>c=b1\/c=b2\/c=k) h F/\J j h F/\f 0=.func (.yield A) #[] #[]/\f 1=ptrTo b1/\f 2=ptrTo b2/\f 4=.int .i64 ((4*i+1+j:Nat):Int)) (fun j=>min 4 (n-(4*i+1))-j) ?_ 0 _ _ ?_
 . clear d
   intro j C f h ⟨hjm,F,s,l,r0,r1,r2,r4⟩
   have d:=s.load b e (.inl rfl)
   have u:=s.load b q (.inr (.inl rfl))
   have x:=s.load b z (.inr (.inr rfl))
   by_cases hlt:j<min 4 (n-(4*i+1))
   . have o:((4*i+1+j:Nat):Int)<=((4*i+4:Nat):Int):=by omega
     have t:4*i+1+j<n:=by omega
     have w:aq .i64 (((4*i+1+j:Nat):Int)+1)=((4*i+1+(j+1):Nat):Int):=by rw [wrap64]<;>omega
     simp only [BS,LB,Nat.reduceLT,Nat.reduceEqDiff,FI,r0,r1,r2,r4,d,u,x,m,r,o,t,aW]
     refine gL Y s l (i:=j) (by rw [XH,Yj hlt];rfl) ?_ ?_ ?_
     . intro y D a E _ _
       simp only [BS,LB,Nat.reduceLT,Nat.reduceEqDiff,r4,w]
       exact C (j+1) _ _ (by omega) ⟨by omega,D,E,a,by simp [aa,r0],by simp [aa,r1,ab],by simp [aa,r2,ab],by simp [aa]⟩
     . intro y a _
       simp only [BS,LB,Nat.reduceLT,Nat.reduceEqDiff]
       exact jw rfl ⟨rfl,.inr (.inl ⟨_,rfl,a⟩)⟩
     . intro v y a
       simp only [BS]
       exact cZ (cq ⟨rfl,.inr (.inr ⟨_,rfl,a⟩)⟩)
   . have G:j=min 4 (n-(4*i+1)):=by omega
     have g:YQ J Z (min 4 (n-(4*i+1))) (.ret (ac [])) none h:=⟨rfl,.inl ⟨_,F,rfl,by rw [<-G];exact l⟩⟩
     by_cases o:((4*i+1+j:Nat):Int)<=((4*i+4:Nat):Int)
     . have t: ¬4*i+1+j<n:=by omega
       simp only [BS,LB,Nat.reduceLT,Nat.reduceEqDiff,FI,r1,r2,r4,d,u,x,m,r,o,t,aW]
       exact dT (cq ⟨rfl,_,rfl,by simpa using g⟩)
     . simp only [BS,LB,Nat.reduceLT,Nat.reduceEqDiff,FI,r1,r4,d,m,r,o]
       exact dT (cq ⟨rfl,_,rfl,by simpa using g⟩)
 . exact⟨by omega,F,s,l,by simp [aa,cL],by simp [aa,cL,ab],by simp [aa,cL,ab],by simp [aa]⟩
theorem down_ok {h0:Hp} (ok:h0.t.Sized h0.n) {u z A cap:Nat} {n:Int} {l:List Hd} (R:eC h0 u z A cap n l) {i:Nat} (C:i<l.length\/(l=[]/\i=0)) (hl:l.length<100000) (D:rH l i):
 Ret zM 248 [ptrTo u,.int .i64 i] h0 fun v h'=>Mo (fun c=>c=z\/c=A) h0 h'/\ ∃l',eC h' u z A cap n l'/\l'.Perm l/\kP l':=by
 have lt:=R.lt ok
 have S:=Si ok
 have K: ∀{L:List (Nat×Ob)},(∀c∈keys L [],h0.n<=c)-> ∀c,c=u\/c=z\/c=A-> ¬c∈keys L []:=fun H c s hm=>by have:=lt c s;have:=H c hm;omega
 refine ae (n:=27) (rs:=[]) rfl Tryz.e248 rfl rfl rfl (lbt rfl) ?_
 simp only [BS,LB,Nat.reduceLT,Fo]
 refine ah aA S ?_;clear S;intro h I S P
 simp only [BS,LB,Nat.reduceLT,Nat.reduceEqDiff]
 refine aC (aI S (i:=0) rfl ?_ ?_ ?_ ono) ?_
 . exact(by simp only [Fo])
 . exact(by exact gI)
 . exact Xu (lbt rfl)
 clear S;rintro h ⟨S,Q⟩;clear Q;simp only [LC,ag,lay,XC,XD,Nat.reduceAdd]at S
 simp only [BS]
 have RR:=R.gr S.gr
 replace S:=S.monoM (M:=fun c=>c=z\/c=A)
 refine qv (fun(i:Nat) ρ d h=> ∃(r:List Nat) (l':List Hd),d=r.map pR/\St (fun c=>c=z\/c=A) h0 h (dX r++[(I,.row [.func (.func 265) #[ptrTo u] #[]] 1)]) []/\(∀c∈keys (dX r++[(I,Ob.row [.func (.func 265) #[ptrTo u] #[]] 1)]) [],h0.n<=c)/\
  eC h u z A cap n l'/\l'.Perm l/\rH l' i/\(i<l.length\/(l=[]/\i=0))/\ρ 0=ptrTo u/\ρ 1=.int .i64 i/\ρ 4=ptrTo I) (fun i=>l.length-i) ?_ i _ _ _ ?_
 . clear S RR R D C i
   intro i ih ρ d hS ⟨r,l',hd,S0,H,R,pm,D,C,r0,r1,r4⟩
   have aL:=pm.length_eq
   have af:i<1000000:=by rcases C with C|⟨_,C⟩<;>omega
   have S:=S0.base
   have Rs:=R
   have n0:h0.n<=hS.n:=S0.fr.n
   simp only [BS,Nat.reduceLT,Fo,r1]
   refine ah aA S ?_;clear S;intro h w S U
   simp only [BS,LB,Nat.reduceLT,Nat.reduceEqDiff]
   refine aC (aI S (i:=0) rfl ?_ ?_ ?_ ono) ?_
   . exact(by simp only [Fo])
   . exact(by exact bM)
   . exact Xu (lbt rfl)
   clear S;rintro h ⟨S,Q⟩;clear Q;simp only [LC,ag,lay,XC,XD,Nat.reduceAdd]at S
   simp only [BS,LB,Nat.reduceLT,Nat.reduceEqDiff,r0,r1]
   have gq:=S.fr.n
   have a0:=S.key_lt (b:=w) (by simp [keys])
   refine step_ret (below_ok S.ok) ?_;intro v h ⟨g,b1,b2,e,n1,n2,q1,q2⟩;replace S:=S.call g;clear g
   subst e
   simp only [BS]
   replace R:=R.mo1 S.fr (K H)
   have gh:=S.fr.n
   refine mF S (g:=278) (a:=#[]) (b:=#[ptrTo b1,ptrTo b2]) (by simp [cu,aa,ab]) rfl rfl ?_
   intro h2 E N V a1 a2 g2
   have kb: ∀c∈keys (dX r++[(I,Ob.row [.func (.func 265) #[ptrTo u] #[]] 1)]) [],c<b1/\c<b2:=fun c s=>by have:=S0.key_lt s;have:=U;omega
   generalize hB:dX r++[(I,Ob.row [.func (.func 265) #[ptrTo u] #[]] 1)]=B at S V S0 H kb
   have mf:(I,Ob.row [.func (.func 265) #[ptrTo u] #[]] 1)∈B:=by rw [<-hB];exact Xt _ m0
   obtain⟨X,hX,V⟩: ∃X:gR,X=_/\St (· ∈keys B []) hS h2 ((N,.loop X)::(E,.dfr)::(w,.row [.int .i64 (i:Nat)] 1)::B) []:=⟨_,rfl,V⟩
   have R2:=R.gr g2
   have ch: ∀j,j<min 4 (l'.length-(4*i+1))->4*i+1+j<l'.length/\(4*i+1+j-1)/4=i:=fun j hj=>⟨by omega,by omega⟩
   have hY:Yld zM N (fun j h' F=> ∃m:Nat,St (· ∈keys B []) hS h' ((N,.loop X)::(E,.dfr)::(w,.row [.int .i64 (m:Nat)] 1)::B) []/\F=keys ((N,.loop X)::(E,.dfr)::(w,.row [.int .i64 (m:Nat)] 1)::B) []/\
    (m<l'.length\/(l'=[]/\m=i))/\hle (l'.getD m default) (l'.getD i default)/\(∀q,q<j->hle (l'.getD m default) (l'.getD (4*i+1+q) default))/\(m=i\/(0<m/\(m-1)/4=i/\hlt (l'.getD m default) (l'.getD i default)))) (fun _ _=>False) ((XG (min 4 (l'.length-(4*i+1)))).map fun j=>[.int .i64 ((4*i+1+j:Nat):Int)]):=by
    refine⟨?_,?_,fun _ _ h=>h.elim,?_⟩
    . rintro j h F ⟨m,S,rfl,_⟩;exact⟨S.ok,fun b t=>S.key_lt t⟩
    . rintro j h F h' ⟨m,S,rfl,k⟩ g;exact⟨m,S.call g,rfl,k⟩
    . rintro j x h F hx ⟨m,S,rfl,G,k2,W,Y⟩
      have Z:j<min 4 (l'.length-(4*i+1)):=by
       have:=(List.getElem?_eq_some_iff.1 hx).1
       simpa using this
      rw [XH,Yj Z]at hx
      cases hx
      obtain⟨c1,c2⟩:=ch j Z
      replace G:=G.resolve_right (by intro e;rw [e.1]at c1;simp at c1)
      obtain⟨X0,ai⟩: ∃x,x=X:=⟨_,rfl⟩
      subst hX
      refine mw (S.get m0) (by rw [Tryz.e248];rfl) rfl ?_
      have S1:=S
      replace S:=S.base
      simp only [BS,LB,Nat.reduceLT,Nat.reduceEqDiff]
      refine kz S (i:=0) rfl rfl rfl rfl rfl ?_
      clear S;intro h S
      simp only [LC]at S
      have lf:h.load I 0 1=some [.func (.func 265) #[ptrTo u] #[]]:=S.ld (o:=0) (.tail _ (.tail _ (.tail _ mf))) rfl
      simp only [BS,LB,Nat.reduceLT,Nat.reduceEqDiff,Fo,r4,lf,S.ld (b:=w) (o:=0) m2 rfl]
      have ak: ∀c∈keys ((N,Ob.loop X0)::(E,.dfr)::(w,.row [.int .i64 (m:Nat)] 1)::B) [],h0.n<=c:=fun c s=>(S1.key_own s).elim (fun h=>by omega) (fun h=>H c h)
      clear ai
      have Rc:eC h u z A cap n l':=(Rs.mo1 S1.fr (K H)).mo1 S.fr (K ak)
      refine an (xU S.ok Rc c1 G) ?_
      intro h g;replace S:=S.call g;clear g Rc lf
      by_cases O:hlt (l'.getD (4*i+1+j) default) (l'.getD m default)
      . simp only [BS,LB,Nat.reduceLT,Nat.reduceEqDiff,O]
        refine aC (aI S (i:=2) rfl ?_ ?_ ?_ ono) ?_
        . exact(by simp only [Fo])
        . exact(by exact bM)
        . exact Xu (lbt rfl)
        clear S;rintro h ⟨S,Q⟩;clear Q;simp only [LC,ag,lay,XC,XD,Nat.reduceAdd]at S
        simp only [BS]
        refine iu S (i:=0) rfl ?_
        clear S;intro h S
        simp only [LC]at S
        refine .inl ⟨rfl,_,⟨4*i+1+j,S1.rebase S,rfl,.inl c1,jq (qj O) k2,fun q hq=>?_,.inr ⟨by omega,c2,?_⟩⟩,S.fr,S.key_new⟩
        . by_cases e:q=j
          . subst e;exact sn _
          . exact jq (qj O) (W q (by omega))
        . rcases Y with rfl|⟨_,_,Y⟩
          . exact O
          . unfold hlt at*;omega
      . simp only [BS,LB,Nat.reduceLT,Nat.reduceEqDiff,O]
        refine iu S (i:=0) rfl ?_
        clear S;intro h S
        simp only [LC]at S
        refine .inl ⟨rfl,_,⟨m,S1.rebase S,rfl,.inl G,k2,fun q hq=>?_,Y⟩,S.fr,S.key_new⟩
        by_cases e:q=j
        . subst e;exact tN O
        . exact W q (by omega)
   refine eW (yD (zK S.ok q1 q2 (R.row.load1 (o:=0) rfl) (by omega) af) hY (h:=h2) (F:=keys ((N,.loop X)::(E,.dfr)::(w,.row [.int .i64 (i:Nat)] 1)::B) []) g2.fr (fun b t hlt=>?_) ⟨i,V,rfl,?_,sn _,fun q hq=>by omega,.inl rfl⟩) fun o rc h' y=>ou y ?_
   . have e1:=V.key_own t
     rintro(rfl|rfl|rfl)
     . rcases List.mem_cons.1 t with e|t
       . omega
       . rcases List.mem_cons.1 t with e|t
         . omega
         . rcases List.mem_cons.1 t with e|t
           . simp only []at e;omega
           . have:=(kb _ t).1;omega
     . rcases List.mem_cons.1 t with e|t
       . omega
       . rcases List.mem_cons.1 t with e|t
         . omega
         . rcases List.mem_cons.1 t with e|t
           . simp only []at e;omega
           . have:=(kb _ t).2;omega
     . have:=lt b (.inl rfl)
       rcases e1 with e1|e1
       . omega
       . have:=H b e1;omega
   . rcases C with C|⟨C,_⟩
     . exact .inl (by omega)
     . right;rw [C]at pm;exact⟨pm.eq_nil,rfl⟩
   . rintro F ⟨m,T,rfl,G,k2,W,Y⟩
     rw [List.length_map,List.length_range]at W
     subst hX
     refine⟨_,T.get m0,Nat.zero_ne_one,?_⟩
     replace T:=T.dead
     show Run _ _ _ _ _ _ _ _
     have p:=T.ld (b:=w) (o:=0) m1 rfl
     have Rc:eC _ u z A cap n l':=Rs.mo1 T.fr (K H)
     have km: ∀q,0<q->q<l'.length->(q-1)/4=i->hle (l'.getD m default) (l'.getD q default):=fun q q0 ql qe=>by
      have:=W (q-(4*i+1)) (by omega)
      rwa [show 4*i+1+(q-(4*i+1))=q by omega]at this
     have T0:=S0.rebase T
     have ad: ∀c∈keys ((E,Ob.dfr)::(w,.row [.int .i64 (m:Nat)] 1)::B) [],h0.n<=c:=fun c s=>(T.key_own s).elim (fun h=>by omega) (fun h=>H c h)
     subst hd hB
     have T2:=T0.sub (L':=dX (E::r)++[(I,Ob.row [.func (.func 265) #[ptrTo u] #[]] 1)]) (G':=[]) (List.Sublist.cons_cons _ (List.sublist_cons_self _ _)) (List.Sublist.refl _)
     have J: ∀c∈keys (dX (E::r)++[(I,Ob.row [.func (.func 265) #[ptrTo u] #[]] 1)]) [],h0.n<=c:=fun c s=>ad c (by simp only [keys,XR,XE,dX,Xi,List.cons_append,Xw]at s⊢;rcases s with h|h;exact .inl h;exact .inr (.inr h))
     by_cases e:m=i
     . subst e
       simp only [BS,LB,Nat.reduceLT,Nat.reduceEqDiff,Fo,r1,p]
       have T3:=T2.base
       refine gW (ns (E::r) _ T3 fun h' T4=>⟨rfl,_,rfl,?_⟩)
       refine⟨(T2.fr.trans T4.fr fun c s=>(T2.key_own s).symm),l',Rc.mo1 T4.fr (K J),pm,dn_done D km⟩
     . have e': ¬((m:Int)=(i:Int)):=by omega
       obtain⟨b0,be,al⟩:=Y.resolve_left e
       replace G:=G.resolve_right (fun h=>e h.2)
       simp only [BS,LB,Nat.reduceLT,Nat.reduceEqDiff,Fo,r0,r1,p,e']
       refine step_ret (ra T2.ok Rc (i:=i) (k:=m) (by omega) G) ?_
       rintro v h ⟨f,Rn⟩
       have ax:=K J
       have T3:=T2.step f (fun c s=>.inl s) (fun c s hM=>ax c (.inr hM) s)
       have f2:Mo (fun c=>c=z\/c=A) _ h:=f
       have ay:h.load w 0 1=some [.int .i64 (m:Nat)]:=by
        have a3:h0.n<=w:=ad w (.tail _ m0)
        have:=f.get w (bD f.ok0 p) (fun hM=>by have:=lt w (.inr hM);omega)
        unfold Hp.load at p⊢
        rw [this];exact p
       simp only [BS,LB,Nat.reduceLT,Nat.reduceEqDiff,Fo,ay]
       exact ih m _ _ _ (by omega) ⟨E::r,_,rfl,T3,J,Rn,(rG l' (by omega) G).trans pm,dn_step D b0 G be al km,.inl (by omega),by simp [aa,r0,ab],by simp [aa],by simp [aa,r4,ab]⟩
 . exact⟨[],l,rfl,S,fun c s=>by simp [keys,dX]at s;subst s;exact P,RR,.refl _,D,C,by simp [aa,bR,ab],by simp [aa,bR,cJ],by simp [aa,ab]⟩
end Go.Ab
end
section
namespace Go.Ab
theorem jo.push{f:Int->Option Value}{l:List Hd}(h:jo f l){x:Hd}(g:x.id∉l.map Hd.id):jo (dg f x.id (some (.int .i64 l.length))) (l++[x]):=by
 refine⟨fun i b=>?_,fun y v c=>?_⟩
 . unfold dg
   simp at b
   by_cases e:i=l.length
   . subst e
     have:(l++[x]).getD l.length default=x:=by simp [Xb]
     rw [this,if_pos rfl]
   . rw [jL l _ (by omega),if_neg ?_]
     . exact h.1 i (by omega)
     . intro d
       apply g
       have a:i<l.length:=by omega
       refine List.mem_map.2 ⟨l.getD i default,?_,by omega⟩
       rw [Xb,Xo a]
       exact XW a
 . unfold dg at c
   by_cases e:y=x.id
   . refine⟨l.length,by simp,?_⟩
     have:(l++[x]).getD l.length default=x:=by simp [Xb]
     rw [this];exact e
   . rw [if_neg e]at c
     obtain⟨i,b,d⟩:=h.2 y v c
     exact⟨i,by simp;omega,by rw [jL l _ b];exact d⟩
theorem jo.cut{f:Int->Option Value}{l:List Hd}(h:jo f l){m:Nat}(d:l.length=m+1):jo (dg f (l.getD m default).id none) (l.take m):=by
 refine⟨fun i b=>?_,fun y v a=>?_⟩
 . rw [Xj]at b
   rw [getD_take l (by omega)]
   unfold dg
   rw [if_neg ?_]
   . exact h.1 i (by omega)
   . intro e
     have:=h.inj (i:=i) (j:=m) (by omega) (by omega) (by omega)
     omega
 . unfold dg at a
   by_cases e:y=(l.getD m default).id
   . rw [if_pos e]at a;cases a
   . rw [if_neg e]at a
     obtain⟨i,b,c⟩:=h.2 y v a
     have:i≠m:=fun e3=>by subst e3;exact e c
     exact⟨i,by rw [Xj];omega,by rw [getD_take l (by omega)];exact c⟩
theorem jo.setKey{f:Int->Option Value}{l:List Hd}(h:jo f l){i:Nat}(k:Int):jo f (l.set i ⟨(l.getD i default).id,k⟩):=by
 have e: ∀j,((l.set i ⟨(l.getD i default).id,k⟩).getD j default).id=(l.getD j default).id:=fun j=>by
  rw [jt]
  split
  . rename_i e;rw [e.1]
  . rfl
 refine⟨fun j a=>?_,fun y v b=>?_⟩
 . rw [e];exact h.1 j (by rwa [Xh]at a)
 . obtain⟨j,a,c⟩:=h.2 y v b
   exact⟨j,by rwa [Xh],by rw [e];exact c⟩
theorem idxF_nil:jo (fun _=>none) []:=⟨fun i a=>by simp at a,fun x v h=>by cases h⟩
theorem dA.take{cs:List Value}{cap:Nat}{l:List Hd}(c:dA cs cap l)(m:Nat):dA cs cap (l.take m):=
 ⟨c.len,Xs (by rw [Xj];omega) c.le,fun i a=>by
  rw [Xj]at a
  rw [getD_take l (by omega)]
  exact c.at0 i (by omega)⟩
theorem dA.push{cs a:List Value}{cap cap':Nat}{l:List Hd}(c:dA cs cap l){x:Hd}(d:a.length=cap'*2)(h:l.length<cap')(b: ∀j,j<l.length*2->a[j]? =cs[j]?)(f:a[l.length*2]? =some (.int .i64 x.id)/\a[l.length*2+1]? =some (.int .i64 x.key)):dA a cap' (l++[x]):=by
 refine⟨d,by simp;omega,fun i g=>?_⟩
 simp at g
 by_cases e:i=l.length
 . subst e
   have:(l++[x]).getD l.length default=x:=by simp [Xb]
   rw [this];exact f
 . rw [jL l _ (by omega),b _ (by omega),b _ (by omega)]
   exact c.at0 i (by omega)
theorem yr{E:Env}{t e:TypeId}{b k len cap n:Nat}{kd:IntKind}(c:E.und t=some (.slice e))(d:E.sz e=some k)(f:n<=cap):dS E t (.slice (some ⟨b,0,some k⟩) len cap) none (some (.int kd (n:Int))) none=some (.slice (some ⟨b,0,some k⟩) n cap):=by
 have a: ∀n:Nat,fG (n:Int)=some n:=fun n=>rfl
 simp only [dS,c,dZ,d6,a,Xf f,cond_true,d,Xk,cond_false,Yn,XB,XX,XV]
 cases XA cap 0<;>rfl
section
variable{M:Nat->Prop}{h0 h:Hp}{L:List (Nat×Ob)}{G:List GL}{E:Env}{t tx e:TypeId}{by_:Nat}{zs:List Value}
theorem St.appH{g cap:Nat}{cs:List Value}{l:List Hd}(S:St M h0 h ((g,.row cs 1)::L) G)(C:dA cs cap l)(B:E.und t=some (.slice e))(K:er E e by_ 2 zs)(N:0<by_)(O:by_<=100)(r:dw E tx=some false){x:Hd}{D:Value}(d:aP h 2 D=some (1,jH x))(V:l.length<1000000){ts:List TypeId}:
 ∃h' w,cM E h (t::tx::ts) (.slice (some ⟨g,0,some 2⟩) l.length cap) D=some (h',w)/\ ∃b cap' k,w=.slice (some ⟨b,0,some 2⟩) (l.length+1) cap'/\St M h0 h' ((b,.row k 1)::L) G/\dA k cap' (l++[x])/\(b=g\/h.n<=b):=by
 obtain⟨⟨i,F,rfl,a⟩,P,u⟩:=K
 have H:Row h g cs 1:=S.row m0
 have m:=C.len
 by_cases Q:l.length+1<=cap
 . obtain⟨y,I,R⟩:=H.store S.ok ono (o:=l.length*2) (vs:=jH x) (by rw [ju];omega) rfl
   refine⟨h.put g y,_,?_,g,cap,_,rfl,S.put (i:=0) rfl R,?_,.inl rfl⟩
   . simp only [cM,r,iY,B,F,a,d]
     unfold eB
     rw [Xf Q]
     simp only [cond_true,jH,a,Xv]
     unfold jH at I
     rw [I]
   . refine C.push (by rw [nj (by rw [ju];omega)];exact m) (by omega) (fun j U=>?_) ⟨?_,?_⟩
     . rw [iZ (by rw [ju];omega),if_neg (by omega)]
     . rw [iZ (by rw [ju];omega),if_pos ⟨XJ _,by rw [ju];omega⟩,Yo];rfl
     . rw [iZ (by rw [ju];omega),if_pos ⟨by omega,by rw [ju];omega⟩,Nat.add_sub_cancel_left];rfl
 . have J:cap=l.length:=by have:=C.le;omega
   obtain⟨s,el,p,f,v⟩:=H
   have z:iU s cs.length 0 (l.length*2) (jH x)=some (s.pushAll cs.length (jH x),cs.length+2):=by
    unfold iU
    rw [show l.length*2=cs.length by omega,XV,XV];rfl
   have T:=S.dead.new (x:=.cells (s.pushAll cs.length (jH x)) (cs.length+2) e 1) (o:=.row (cs++jH x) 1) (by
    refine⟨s.pushAll cs.length (jH x),e,?_,?_,fun n=>?_⟩
    . rw [Hp.get_new _ _ S.dead.ok,if_pos rfl,Xy];rfl
    . rw [Xy];exact Tr.sized_pushAll _ f
    . rw [Tr.get_pushAll _ _ _ f,XM]
      split
      . exact v n
      . rfl)
   refine⟨_,.slice (some ⟨h.n,0,some 2⟩) (l.length+1) (l.length+1),?_,h.n,l.length+1,_,rfl,T,?_,.inr (XJ _)⟩
   . simp only [cM,r,iY,B,F,a,d]
     unfold eB
     have q:XQ (l.length+1) cap=false:=by
      cases r:XQ (l.length+1) cap with
      |false=>rfl
      |true=>exact absurd (lbt r) (by omega)
     rw [q]
     simp only [cond_false]
     have c:(XQ ((l.length+1)*(i.bytes+1)) 70368744177664&&Nat.blt 0 i.bytes)=true:=by
      have:(l.length+1)*(i.bytes+1)<=1000000*101:=Nat.mul_le_mul (by omega) (by omega)
      rw [Xf (by omega)]
      simp only [Bool.true_and]
      rw [Yf];exact N
     have A:XA zs.length i.size=true:=by rw [u,a];rfl
     rw [c,P]
     simp only [cond_true,A]
     unfold lV
     simp only [p,a,z]
     rfl
   . refine C.push (by rw [Xy,ju];omega) (by omega) (fun j U=>?_) ⟨?_,?_⟩
     . rw [List.getElem?_append_left (by omega)]
     . rw [XS (by omega),show l.length*2-cs.length=0 by omega];rfl
     . rw [XS (by omega),show l.length*2+1-cs.length=1 by omega];rfl
theorem St.appH0(S:St M h0 h L G)(n:E.und t=some (.slice e))(p:er E e by_ 2 zs)(q:0<by_)(r:by_<=100)(s:dw E tx=some false){x:Hd}{m:Value}(d:aP h 2 m=some (1,jH x)){ts:List TypeId}:
 ∃h' w,cM E h (t::tx::ts) (.slice none 0 0) m=some (h',w)/\ ∃b cap' f,w=.slice (some ⟨b,0,some 2⟩) 1 cap'/\St M h0 h' ((b,.row f 1)::L) G/\dA f cap' [x]/\h.n<=b:=by
 obtain⟨⟨i,j,rfl,c⟩,u,k⟩:=p
 have T:=S.new (x:=.cells (Tr.ofList (jH x)) 2 e 1) (o:=.row (jH x) 1) (nI S.ok (jH x) e 1)
 refine⟨_,.slice (some ⟨h.n,0,some 2⟩) 1 1,?_,h.n,1,_,rfl,T,⟨rfl,by simp,fun i j=>?_⟩,XJ _⟩
 . simp only [cM,s,iY,n,j,c,d]
   unfold eB
   have g:XQ (0+1) 0=false:=rfl
   rw [g]
   simp only [cond_false]
   have a:(XQ ((0+1)*(i.bytes+1)) 70368744177664&&Nat.blt 0 i.bytes)=true:=by
    rw [Xf (by omega)]
    simp only [Bool.true_and]
    rw [Yf];exact q
   have l:XA zs.length i.size=true:=by rw [k,c];rfl
   rw [a,u]
   simp only [cond_true,l]
   unfold lV
   rw [show XA 0 0=true from rfl,c]
   rfl
 . have:i=0:=by simpa using j
   subst this;exact⟨rfl,rfl⟩
theorem St.rowS{i b d n cap c:Nat}{N:Int}{cs:List Value}{g:List (Value×Value×Nat)}{l:List Hd}{f:Int->Option Value}(S:St M h0 h [(b,.row cs 1),(i,.row [.slice (some ⟨b,0,some 2⟩) n cap,.map (some d),.int .i64 N] 1),(d,.map g c)] [])(C:dA cs cap l)(j:n=l.length)(k:cN g c f)(m:jo f l):eC h i b d cap N l:=by
 subst j
 have a:=S.apart
 simp only [keys,Xi,Yp,XR,XE,Xx,Xw,XK,or_false,not_or]at a
 exact⟨S.row m1,⟨cs,g,c,f,S.row m0,(S.own _ m2).2,C,k,m⟩,fun e=>a.1.1 e.symm,a.2.1,a.1.2⟩
end
theorem jC{ρ:Operand->Value}{b:Bool}{t:TypeId}{a v:Operand}{h h':Hp}:bU ρ b (.store t a v) h h'=(match ρ a with| .pointer (some a)=>some (.blk a.block)|_=>none):=by
 simp only [bU,dk,iA,dQ,touch,cond_false]
 cases ρ a<;>first|rfl|(rename_i x;cases x<;>rfl)
theorem xJ{ρ:Operand->Value}{b:Bool}{x:Operand}{ts:Array TypeId}{h h':Hp}:bU ρ b (.call ⟨.builtin .len,#[x],ts⟩) h h'=(match ρ x with| .map (some r)=>some (.blk r)| .slice (some a) _ _=>some (.blk a.block)|_=>none):=by
 simp only [bU,dk,iA,dQ,touch,cond_false]
 cases ρ x<;>first|rfl|(rename_i x;cases x<;>rfl)|(rename_i x _ _;cases x<;>rfl)
theorem dn_del{E:Env}{cx:Cx}{Q:eh}{a:List Oper}{q:Nat}{ps:List (Nat×Nat)}{o:Oper}{os:List Oper}{i:Nat}{k:List Fr}{l:Loc}{b:Hp->List (Nat×Tch)}{h:Hp}{t:TypeId}{m key:Value}{P:Hp->Prop}(c: ∃h',kA E h t m key=some h'/\P h')
 (d: ∀h',P h'->Run E (lim E) cx Q (.opsD a q ps os (i+1) (b h')::k) .normal (l.put o.dst (.tuple #[])) h'):DN E cx Q a q ps o os i k l b (delR E h t m key):=by
 obtain⟨h',e,f⟩:=c
 unfold delR
 rw [e]
 exact d h' f
structure bC(h:Hp)(F:List Nat)(p:Value)(N:Nat)(K:Nat->Option Int):Prop where
 ex: ∃bh bm l,p=ptrTo bh/\kP l/\fW l K/\(∀x∈l,x.id<N)/\
  ((l=[]/\F=[bh,bm]/\bh≠bm/\Row h bh [.slice none 0 0,.map (some bm),.int .i64 N] 1/\ ∃es c,h.get bm=some (.map es c)/\cN es c (fun _=>none))\/ ∃bl cap,F=[bh,bl,bm]/\eC h bh bl bm cap N l)
theorem bC.mo{M:Nat->Prop}{h h':Hp}{F:List Nat}{p:Value}{N:Nat}{K:Nat->Option Int}(a:bC h F p N K)(g:Mo M h h')(d: ∀b∈F,¬M b):bC h' F p N K:=by
 obtain⟨j,m,l,e,n,q,r,s⟩:=a.ex
 refine⟨j,m,l,e,n,q,r,?_⟩
 rcases s with⟨t,rfl,u,v,i,c,w,x⟩|⟨y,f,rfl,k⟩
 . exact .inl ⟨t,rfl,u,g.has (o:=.row _ 1) v (d _ (by simp)),i,c,g.has (o:=.map i c) w (d _ (by simp)),x⟩
 . exact .inr ⟨y,f,rfl,k.mo g (d _ (by simp)) (d _ (by simp)) (d _ (by simp))⟩
theorem bC.gr{h h':Hp}{F:List Nat}{p:Value}{N:Nat}{K:Nat->Option Int}(a:bC h F p N K)(g:Gr h h'):bC h' F p N K:=a.mo (M:=NoM) g.fr (fun _ _ h=>h)
theorem bC.lt{h:Hp}(f:h.t.Sized h.n){F:List Nat}{p:Value}{N:Nat}{K:Nat->Option Int}(a:bC h F p N K): ∀b∈F,b<h.n:=by
 obtain⟨n,o,l,e,q,r,s,g⟩:=a.ex
 rcases g with⟨t,rfl,u,i,v,c,j,w⟩|⟨x,m,rfl,k⟩
 . intro b d
   simp at d
   rcases d with rfl|rfl
   . exact i.lt f
   . exact eZ f j
 . intro b d
   simp at d
   exact k.lt f b d
theorem sQ{l:List Hd}{K:Nat->Option Int}(h:fW l K){N:Nat}(a: ∀x∈l,x.id<N):l.length<=N:=by
 have:=oa N (l.map Hd.id) h.1 (fun x b=>by obtain⟨y,c,rfl⟩:=List.mem_map.1 b;exact a y c)
 simpa using this
end Go.Ab

end
section
namespace Go.Ab
open Go.Proofs
set_option maxRecDepth 10000
def Tryz.F0V:=aj t1<|aj t3<|aj t218<|aj t275<|aj t337<|aj Z6<|aj Z7<|Z10
def Tryz.F0W:=aj t1<|aj t2<|aj t3<|aj t4<|aj t218<|aj t275<|aj t337<|aj Z6<|aj Z7<|Z10
def Tryz.F0f:=aj t1<|aj t2<|aj t3<|aj t4<|aj t5<|aj t6<|aj t218<|aj t275<|aj t337<|aj Z6<|aj Z7<|Z10
def Tryz.Fi:=aj t1<|aj t2<|aj t3<|aj t4<|aj t5<|aj t6<|aj Z3<|aj Z5<|aj t9<|aj t45<|aj t218<|aj t275<|aj t337<|aj Z6<|aj Z7<|Z10
def Tryz.F0g:=aj t1<|aj t2<|aj t3<|aj t4<|aj t5<|aj t6<|aj Z3<|aj Z5<|aj t9<|aj t10<|aj t11<|aj t12<|aj t45<|aj t218<|aj t275<|aj t337<|aj Z6<|aj Z7<|Z10
theorem tZ{h0:Hp}(k:h0.t.Sized h0.n){N:Nat}:Ret zM 196 [.int .i64 N] h0 fun v h'=>Gr h0 h'/\ ∃F,bC h' F v N (fun _=>none)/\ ∀b∈F,h0.n<=b:=by
 have S:=Si k
 have l:max (N:Int) 0=(N:Int):=by omega
 refine ae (n:=9) (rs:=[.tmp 2]) rfl Tryz.e196 rfl rfl rfl (lbt rfl) ?_
 simp only [BS]
 refine ah nG S ?_;clear S;intro h f S a
 simp only [BS,LB,Nat.reduceLT,Nat.reduceEqDiff,Nat.reduceAdd,Nat.reduceLeDiff,F0V,l]
 refine ah (a8 (by intro x e;cases e)) S ?_;clear S;intro h b S d;simp only [ag]at S
 simp only [BS,LB,ac,Nat.reduceLT,Nat.reduceEqDiff]
 have g:=S.apart
 simp only [keys,Xi,Yp,XR,XE,Xx,Xw,XK,or_false]at g
 refine⟨S.gr,[b,f],⟨b,f,[],rfl,fun j _ m=>(by simp at m),cont_nil,fun x o=>(by cases o),.inl ⟨rfl,rfl,g.1,S.row m0,[],0,(S.own _ m1).2,kT⟩⟩,fun c i=>?_⟩
 simp at i
 rcases i with rfl|rfl
 . exact d
 . exact a
section
variable{h0:Hp}{F:List Nat}{p:Value}{N:Nat}{K:Nat->Option Int}
theorem pK(f:h0.t.Sized h0.n)(H:bC h0 F p N K): ∃m:Nat,bI zM 246 [p] h0 (.int .i64 m)/\(m=0↔ ∀v,K v=none):=by
 obtain⟨g,q,l,rfl,r,d,s,h⟩:=H.ex
 refine⟨l.length,?_,?_⟩
 . have S:=Si f
   obtain⟨a,n,c,m1,m2,b,i⟩: ∃a n c m1 m2,Row h0 g [.slice a n c,m1,m2] 1/\n=l.length:=by
    rcases h with⟨rfl,_,_,b,_⟩|⟨t,j,_,b⟩
    . exact⟨_,_,_,_,_,b,rfl⟩
    . exact⟨_,_,_,_,_,b.row,rfl⟩
   subst i
   have k:=b.load1 (o:=0) rfl
   refine ae (n:=11) (rs:=[.tmp 2]) rfl Tryz.e246 rfl rfl rfl (lbt rfl) ?_
   simp only [BS,LB,ac,Nat.reduceLT,Nat.reduceEqDiff,F0W,k]
   exact S.gr
 . constructor
   . intro e
     rw [List.length_eq_zero_iff.1 e]at d
     exact d.nil
   . intro e
     cases l with
     |nil=>rfl
     | cons x l=>
       have:=(d.2 x.id x.key).2 (by simp)
       rw [e]at this;cases this
theorem Aq (y:h0.t.Sized h0.n) (H:bC h0 F p N K) {v:Nat}:bI zM 252 [p,.int .i64 v] h0 (.tuple #[.int .i64 ((K v).getD 0),.bool (K v).isSome]):=by
 have S:=Si y
 obtain⟨m,a,A⟩:=pK y H
 obtain⟨O,P,l,rfl,Q,r,T,I⟩:=H.ex
 by_cases b:m=0
 . subst b
   have e:=A.1 rfl v
   rw [e]
   refine ae (n:=32) (rs:=[.tmp 4,.tmp 5]) rfl Tryz.e252 rfl rfl rfl (lbt rfl) ?_
   simp only [BS,LB,Nat.reduceLT,Nat.reduceEqDiff]
   refine an (a) ?_;intro h g;replace S:=S.call g;clear g
   simp only [BS,LB,ac,Nat.reduceLT,Nat.reduceEqDiff,Xa]
   exact⟨rfl,S.gr⟩
 . have d: ¬((m:Int)=0):=by omega
   rcases I with⟨rfl,_⟩|⟨U,J,_,R⟩
   . exact absurd (A.2 r.nil) b
   . refine ae (n:=32) (rs:=[.tmp 4,.tmp 5]) rfl Tryz.e252 rfl rfl rfl (lbt rfl) ?_
     simp only [BS,LB,Nat.reduceLT,Nat.reduceEqDiff]
     refine an (a) ?_;intro h g;replace S:=S.call g;replace R:=R.gr g;clear g
     obtain⟨V,W,c,f,s,t,C,L,B⟩:=R.ex
     have M:=R.row.load1 (o:=0) rfl
     have D:=R.row.load1 (o:=1) rfl
     have q:=jT (x:=(v:Int)) Tryz.t218.1 Tryz.t3.1 (z:=.int .i64 0) (by kernel_rfl) t L
     cases E:K v with
     | none=>
       have u:f v=none:=by
        cases hf:f v with
        |none=>rfl
        | some w=>
          obtain⟨i,j,e⟩:=B.2 v w hf
          have:=r.at j
          rw [show(l.getD i default).id=v by omega,E]at this;cases this
       rw [u]at q
       simp only [BS,LB,ac,Nat.reduceLT,Nat.reduceEqDiff,F0f,d,D,q,XY,Xk]
       exact S.gr
     | some k=>
       obtain⟨i,j,e⟩:=r.idx E
       have u:f v=some (.int .i64 i):=by have:=B.1 i j;rwa [e]at this
       rw [u]at q
       have G:=C.ld1 s j
       rw [e]at G
       simp only [BS,LB,ac,Nat.reduceLT,Nat.reduceEqDiff,F0f,d,M,D,q,XZ,j,G]
       exact S.gr
theorem oP(ok:h0.t.Sized h0.n)(H:bC h0 F p N K){v:Nat}(hv:v<N)(hN:N<=1000)(P:K v=none){k:Int}:
 Ret zM 200 [p,.int .i64 v,.int .i64 k] h0 fun r h'=>Mo (· ∈F) h0 h'/\ ∃F',bC h' F' p N (ct K v (some k))/\ ∀b∈F',b∈F\/h0.n<=b:=by
 obtain⟨a,s,l,rfl,ho,m,hlt,D⟩:=H.ex
 have af:=sQ m hlt
 have c1: ¬((v:Int)<0):=by omega
 have c2: ¬((N:Int)<=(v:Int)):=by omega
 have hn:=m.free P
 rcases D with⟨rfl,rfl,T,hr,U,c,g,E⟩|⟨G,u,rfl,R⟩
 . have S:=St.init2 (M:=(· ∈[a,s])) ok (o1:=.row _ 1) (o2:=.map U c) hr g T (by simp) (by simp)
   have Q:=jT (x:=(v:Int)) Tryz.t218.1 Tryz.t3.1 (z:=.int .i64 0) (by kernel_rfl) g E
   refine ae (n:=71) (rs:=[.tmp 6]) rfl Tryz.e200 rfl rfl rfl (lbt rfl) ?_
   simp only [BS,LB,Nat.reduceLT,Nat.reduceEqDiff,Fi,Q,c1,c2,XY,Xk,S.ld (b:=a) (o:=1) m0 rfl,S.ld (b:=a) (o:=2) m0 rfl]
   refine aE (aJ rfl) (q:=0) (ps:=[]) (by kernel_rfl) ?_
   simp only [BS,LB,cls,Nat.reduceLT,Nat.reduceEqDiff,Nat.reduceAdd,Nat.reducePow,Nat.reduceDiv,Nat.reduceMod,Nat.reduceLeDiff,Xa,Fi,S.ld (b:=a) (o:=0) m0 rfl,S.ld (b:=a) (o:=1) m0 rfl]
   refine dP (S.mputI (i:=1) rfl Tryz.t218.1 Tryz.t3.1 E _) ?_
   clear S;rintro h ⟨_,V,c',y,S⟩
   simp only [LC]at S
   simp only [BS,LB,Nat.reduceLT,Nat.reduceEqDiff,Nat.reduceAdd,Fi,S.ld (b:=a) (o:=0) m0 rfl,S.ld (b:=a) (o:=1) m0 rfl]
   refine ah (cB (by exact Tryz.t337.1) (by exact Yg) (by decide) (by rfl)) S ?_;clear S;intro h I S J;simp only [LC,bq,bV,ag,Nat.reduceMul,Nat.reduceAdd,XB,Xv,Xz,Ya]at S
   simp only [BS,LB,Nat.reduceLT,Nat.reduceEqDiff,S.ld (b:=a) (o:=0) m1 rfl,S.ld (b:=a) (o:=1) m1 rfl]
   have j:aP h 2 (.slice (some ⟨I,0,none⟩) 1 1)=some (1,jH ⟨v,k⟩):=by simp only [aP];rw [S.lds (b:=I) (o:=0) (n:=1*2) m0 (lbt rfl)];rfl
   replace S:=S.drop1
   refine gf (S.appH0 Tryz.t337.1 Yg (by decide) (by decide) Tryz.t337.2.2.2.2.2 j) ?_
   clear S j;rintro h w ⟨G,u,cs,rfl,S,C,W⟩
   simp only [BS,LB,Nat.reduceLT,Nat.reduceEqDiff,Fi]
   refine aC (aI S (i:=1) rfl ?_ ?_ ?_ ono) ?_
   . exact(by simp only [Fi])
   . exact(by exact bF)
   . exact Xu (lbt rfl)
   clear S;rintro h ⟨S,X⟩;clear X;simp only [LC,ag,lay,XC,XD,Nat.reduceAdd]at S
   simp only [BS]
   refine aE (aJ rfl) (q:=0) (ps:=[]) (by kernel_rfl) ?_
   simp only [BS,LB,cls,Nat.reduceLT,Nat.reduceEqDiff,Nat.reduceAdd,Nat.reducePow,Nat.reduceDiv,Nat.reduceMod,Nat.reduceLeDiff,Int.reduceSub,Xa,Fi,S.ld (b:=a) (o:=0) m1 rfl,S.ld (b:=a) (o:=1) m1 rfl]
   have R:eC h a G s u N ([]++[⟨v,k⟩]):=S.rowS C rfl y (idxF_nil.push hn)
   have Y:aq .i64 0=((0:Nat):Int):=rfl
   rw [Y]
   refine cV (up_ok S.ok R (i:=0) (by simp) (by simp) (vq ho ⟨v,k⟩)) ?_
   have d:=(S.own _ m0).1
   rintro r h ⟨f,Z,R',L,A⟩
   simp only [BS,LB,Nat.reduceLT,Nat.reduceAdd,Xa]
   refine⟨S.fr.trans f (fun c m=>?_),[a,G,s],⟨a,s,Z,rfl,A,(m.push P k).perm L,fun x D=>?_,.inr ⟨G,u,rfl,R'⟩⟩,fun b O=>?_⟩
   . rcases m with rfl|rfl
     . exact d.symm
     . exact .inl (by simp)
   . have:=L.mem_iff.1 D
     simp at this;subst this;exact hv
   . simp at O
     rcases O with rfl|rfl|rfl
     . exact .inl (by simp)
     . exact d.symm
     . exact .inl (by simp)
 . obtain⟨cs,U,c,f,ad,g,C,E,IF⟩:=R.ex
   have S:=St.init3 (M:=(· ∈[a,G,s])) ok (o1:=.row cs 1) (o2:=.row _ 1) (o3:=.map U c) ad R.row g R.ne.1.symm R.ne.2.2 R.ne.2.1 (by simp) (by simp) (by simp)
   have Q:=jT (x:=(v:Int)) Tryz.t218.1 Tryz.t3.1 (z:=.int .i64 0) (by kernel_rfl) g E
   have fv:f v=none:=by
    cases hf:f v with
    |none=>rfl
    | some w=>
      obtain⟨i,hi,e⟩:=IF.2 v w hf
      have:=m.at hi
      rw [show(l.getD i default).id=v by omega,P]at this;cases this
   rw [fv]at Q
   refine ae (n:=71) (rs:=[.tmp 6]) rfl Tryz.e200 rfl rfl rfl (lbt rfl) ?_
   simp only [BS,LB,Nat.reduceLT,Nat.reduceEqDiff,Fi,Q,c1,c2,XY,Xk,S.ld (b:=a) (o:=1) m1 rfl,S.ld (b:=a) (o:=2) m1 rfl]
   refine aE (aJ rfl) (q:=0) (ps:=[]) (by kernel_rfl) ?_
   simp only [BS,LB,cls,Nat.reduceLT,Nat.reduceEqDiff,Nat.reduceAdd,Nat.reducePow,Nat.reduceDiv,Nat.reduceMod,Nat.reduceLeDiff,Fi,S.ld (b:=a) (o:=0) m1 rfl,S.ld (b:=a) (o:=1) m1 rfl]
   refine dP (S.mputI (i:=2) rfl Tryz.t218.1 Tryz.t3.1 E _) ?_
   clear S;rintro h ⟨_,V,c',y,S⟩
   simp only [LC]at S
   simp only [BS,LB,Nat.reduceLT,Nat.reduceEqDiff,Nat.reduceAdd,Fi,S.ld (b:=a) (o:=0) m1 rfl,S.ld (b:=a) (o:=1) m1 rfl]
   refine ah (cB (by exact Tryz.t337.1) (by exact Yg) (by decide) (by rfl)) S ?_;clear S;intro h I S J;simp only [LC,bq,bV,ag,Nat.reduceMul,Nat.reduceAdd,XB,Xv,Xz,Ya]at S
   simp only [BS,LB,Nat.reduceLT,Nat.reduceEqDiff,S.ld (b:=a) (o:=0) m2 rfl,S.ld (b:=a) (o:=1) m2 rfl]
   have j:aP h 2 (.slice (some ⟨I,0,none⟩) 1 1)=some (1,jH ⟨v,k⟩):=by simp only [aP];rw [S.lds (b:=I) (o:=0) (n:=1*2) m0 (lbt rfl)];rfl
   replace S:=S.drop1
   refine gf (S.appH C Tryz.t337.1 Yg (by decide) (by decide) Tryz.t337.2.2.2.2.2 j (by omega)) ?_
   clear S j;rintro h w ⟨B,t,ai,rfl,S,C',W⟩
   simp only [BS,LB,Nat.reduceLT,Nat.reduceEqDiff,Fi]
   refine aC (aI S (i:=1) rfl ?_ ?_ ?_ ono) ?_
   . exact(by simp only [Fi])
   . exact(by exact bF)
   . exact Xu (lbt rfl)
   clear S;rintro h ⟨S,X⟩;clear X;simp only [LC,ag,lay,XC,XD,Nat.reduceAdd]at S
   simp only [BS]
   refine aE (aJ rfl) (q:=0) (ps:=[]) (by kernel_rfl) ?_
   have Y:aq .i64 (((l.length+1:Nat):Int)-1)=((l.length:Nat):Int):=by rw [wrap64]<;>omega
   simp only [BS,LB,cls,Nat.reduceLT,Nat.reduceEqDiff,Nat.reduceAdd,Nat.reducePow,Nat.reduceDiv,Nat.reduceMod,Nat.reduceLeDiff,Fi,Y,S.ld (b:=a) (o:=0) m1 rfl,S.ld (b:=a) (o:=1) m1 rfl]
   have R:eC h a B s t N (l++[⟨v,k⟩]):=S.rowS C' (by simp) y (IF.push hn)
   refine cV (up_ok S.ok R (i:=l.length) (by simp) (by simp;omega) (vq ho ⟨v,k⟩)) ?_
   have d:=(S.own _ m0).1
   rintro r h ⟨f,Z,R',L,A⟩
   simp only [BS,LB,Nat.reduceLT,Nat.reduceAdd]
   refine⟨S.fr.trans f (fun c m=>?_),[a,B,s],⟨a,s,Z,rfl,A,(m.push P k).perm L,fun x D=>?_,.inr ⟨B,t,rfl,R'⟩⟩,fun b O=>?_⟩
   . rcases m with rfl|rfl
     . exact d.symm
     . exact .inl (by simp)
   . have:=L.mem_iff.1 D
     simp at this
     rcases this with h|rfl
     . exact hlt x h
     . exact hv
   . simp at O
     rcases O with rfl|rfl|rfl
     . exact .inl (by simp)
     . exact d.symm
     . exact .inl (by simp)
theorem qg(T:h0.t.Sized h0.n)(H:bC h0 F p N K){v:Nat}(hN:N<=1000){t k:Int}(U:K v=some t)(hle:k<=t):
 Ret zM 199 [p,.int .i64 v,.int .i64 k] h0 fun r h'=>Mo (· ∈F) h0 h'/\bC h' F p N (ct K v (some k)):=by
 obtain⟨d,w,l,rfl,V,g,hlt,y⟩:=H.ex
 have W:=sQ g hlt
 obtain⟨i,a,u⟩:=g.idx U
 have X:v<N:=by
  have:=hlt (l.getD i default) (by rw [Xb,Xo a];exact XW a)
  rwa [u]at this
 have Y: ¬((v:Int)<0):=by omega
 have Z: ¬((N:Int)<=(v:Int)):=by omega
 have c3: ¬(t<k):=by omega
 rcases y with⟨rfl,_⟩|⟨A,j,rfl,R⟩
 . simp at a
 . obtain⟨G,es,c,f,m,q,C,I,J⟩:=R.ex
   have S:=St.init3 (M:=(· ∈[d,A,w])) T (o1:=.row G 1) (o2:=.row _ 1) (o3:=.map es c) m R.row q R.ne.1.symm R.ne.2.2 R.ne.2.1 (by simp) (by simp) (by simp)
   have L:=jT (x:=(v:Int)) Tryz.t218.1 Tryz.t3.1 (z:=.int .i64 0) (by kernel_rfl) q I
   have fv:f v=some (.int .i64 i):=by have:=J.1 i a;rwa [u]at this
   rw [fv]at L
   have O:=C.ld1 m a
   have P:=C.len
   have ad:=C.le
   have ek:(l.getD i default).key=t:=by rw [u]
   have B:(l.getD i default).id=v:=by rw [u]
   rw [ek]at O
   refine ae (n:=61) (rs:=[.tmp 6]) rfl Tryz.e199 rfl rfl rfl (lbt rfl) ?_
   simp only [BS,LB,Nat.reduceLT,Nat.reduceEqDiff,F0g,L,Y,Z,c3,a,O,XZ,S.ld (b:=d) (o:=0) m1 rfl,S.ld (b:=d) (o:=1) m1 rfl,S.ld (b:=d) (o:=2) m1 rfl]
   refine aC (S.store (i:=0) (off:=i*2+1) rfl Tryz.t2.2.2.1 (by intro x e;cases e) rfl rfl (by omega) ono) ?_
   clear S;rintro h ⟨S,_⟩
   simp only [LC,ag]at S
   have Q:=C.setKey a k
   generalize lay G (i*2+1) _=af at S Q
   simp only [BS,LB,Nat.reduceLT,Nat.reduceEqDiff,F0g,S.ld (b:=d) (o:=0) m1 rfl,S.ld (b:=d) (o:=1) m1 rfl]
   have R1:eC h d A w j N (l.set i ⟨(l.getD i default).id,k⟩):=S.rowS Q (by rw [Xh]) I (J.setKey k)
   refine step_ret (up_ok S.ok R1 (i:=i) (by rw [Xh];exact a) (by rw [Xh];omega) (AF V (by unfold Ab.hle;simp only [];omega))) ?_
   rintro r h ⟨f,l',R',D,E⟩
   simp only [BS,Nat.reduceLT]
   have s:=g.lower a k
   rw [B]at s
   refine⟨S.fr.trans f (fun c g=>?_),⟨d,w,l',rfl,E,(by rw [B]at D;exact s.perm D),fun x y=>?_,.inr ⟨A,j,rfl,R'⟩⟩⟩
   . rcases g with rfl|rfl<;>exact .inl (by simp)
   . have:=D.mem_iff.1 y
     rcases List.mem_or_eq_of_mem_set this with h|rfl
     . exact hlt x h
     . rw [B];exact X
end
end Go.Ab

end
section
namespace Go.Ab
open Go.Proofs
set_option maxRecDepth 10000
def Tryz.Fp:=aj t1<|aj t2<|aj t3<|aj t4<|aj t5<|aj t6<|aj Z3<|aj Z5<|aj t218<|aj t275<|aj t337<|aj Z6<|aj Z7<|Z10
section
variable{h0:Hp}{F:List Nat}{p:Value}{N:Nat}{K:Nat->Option Int}
theorem tw(ok:h0.t.Sized h0.n)(H:bC h0 F p N K)(hN:N<=1000):
 Ret zM 202 [p] h0 fun r h'=>(r=.tuple #[.int .i64 0,.int .i64 0,.bool false]/\(∀v,K v=none)/\Gr h0 h')\/ ∃v k,r=.tuple #[.int .i64 (v:Nat),.int .i64 k,.bool true]/\K v=some k/\(∀u k',K u=some k'->k<k'\/(k=k'/\v<=u))/\Mo (· ∈F) h0 h'/\bC h' F p N (ct K v none):=by
 obtain⟨m,B,O⟩:=pK ok H
 obtain⟨d,D,l,rfl,ho,t,hlt,hx⟩:=H.ex
 have aL:=sQ t hlt
 by_cases E:m=0
 . subst E
   have S:=Si ok
   refine ae (n:=55) (rs:=[.tmp 2,.tmp 3,.tmp 4]) rfl Tryz.e202 rfl rfl rfl (lbt rfl) ?_
   simp only [BS,LB,Nat.reduceLT,Nat.reduceEqDiff]
   refine an (B) ?_;intro h g;replace S:=S.call g;clear g
   simp only [BS,LB,ac,Nat.reduceLT,Nat.reduceEqDiff,Xa]
   exact .inl ⟨O.1 rfl,S.gr⟩
 . have ad: ¬((m:Int)=0):=by omega
   rcases hx with⟨rfl,_⟩|⟨y,cap,rfl,R⟩
   . exact absurd (O.2 t.nil) E
   . have a:0<l.length:=by
      cases l with
      |nil=>exact absurd (O.2 t.nil) E
      |cons x l=>simp
     have S:=Si ok
     refine ae (n:=55) (rs:=[.tmp 2,.tmp 3,.tmp 4]) rfl Tryz.e202 rfl rfl rfl (lbt rfl) ?_
     simp only [BS,LB,Nat.reduceLT,Nat.reduceEqDiff]
     refine an (B) ?_;intro h g;replace S:=S.call g;replace R:=R.gr g;clear g
     have g0:=S.gr
     clear S
     obtain⟨cs,es,c,f,z,G,C,MI,IF⟩:=R.ex
     have r0:=R.row.load1 (o:=0) rfl
     have l2:=C.ld2 z a
     have S:=Si g0.ok
     have i0:ff (.int .i64 0) l.length=some 0:=hZ (i:=0) a
     have w1:aq .i64 ((l.length:Int)-1)=((l.length-1:Nat):Int):=by rw [wrap64]<;>omega
     simp only [BS,LB,Nat.reduceLT,Nat.reduceEqDiff,ad]
     refine aE (kh (ord:=[14,0,1,2,3,4,5,6,7,8,9,10,11,12,13,15,16]) rfl rfl (by simp only [dv,kX,dU,List.getElem?_cons_zero,List.getElem?_cons_succ,List.map_toArray,Xi,Yp,Nat.reduceBEq,cond_true,cond_false];exact rfl)) (q:=1) (ps:=[(13,15),(12,15)]) (by kernel_rfl) ?_
     simp only [BS,LB,cls,Nat.reducePow,Nat.reduceDiv,Nat.reduceMod,Nat.reduceLeDiff,Fp]
     refine df aA S ?_;clear S;intro h s S ax ay
     simp only [BS,LB,cls,Nat.reduceLT,Nat.reduceEqDiff,Nat.reduceAdd,Nat.reducePow,Nat.reduceDiv,Nat.reduceMod,Nat.reduceLeDiff,Fp,S.old r0 (fun h=>h),S.old l2 (fun h=>h),i0,w1]
     refine dP (S.store (i:=0) rfl ?_ ?_ rfl rfl ?_ ono) ?_
     . exact(by exact Tryz.t339.2.1)
     . exact(by intro x e;cases e)
     . exact lbt rfl
     clear S;rintro h ⟨S,mo⟩;clear mo;simp only [LC,ag,lay,XC,XD,Nat.reduceAdd]at S
     simp only [BS,LB,cls,Nat.reduceLT,Nat.reduceEqDiff,Nat.reduceAdd,Nat.reducePow,Nat.reduceDiv,Nat.reduceMod,Nat.reduceLeDiff,Fp,S.old r0 (fun h=>h),S.old l2 (fun h=>h)]
     have g1:=S.gr
     have R1:=R.gr g1
     have Y:=S.lds (b:=s) (o:=0) (n:=2) m0 (lbt rfl)
     have A:=R.lt g0.ok
     have nb:s≠d:=fun e=>by have:=A d (.inl rfl);omega
     have P:s≠y:=fun e=>by have:=A y (.inr (.inl rfl));omega
     refine⟨by simp only [bj,bA,aS,bK,aY,ne_eq,not_false_eq_true,bJ,cb,a9,aX,cu,cR,aO,Nat.reduceLT,Nat.reduceEqDiff,reduceIte,Yi,ab,jC,xJ,nH nb,nH nb.symm,nH P,nH P.symm],?_⟩
     have sw:Ret zM 247 [ptrTo d,.int .i64 0,.int .i64 ((l.length-1:Nat):Int)] _ _:=ra S.ok R1 (i:=0) (k:=l.length-1) a (by omega)
     refine step_ret sw ?_
     --refine step_ret (ra S.ok R1 (i := 0) (k := l.length - 1) a (by omega)) ?_
     rintro r I ⟨Z,L⟩
     have gg:Gr h0 h:=g0.trans g1
     have mA:Mo (· ∈[d,y,D]) h0 I:=(gg.fr (M:=(· ∈[d,y,D]))).trans Z (fun c t=>.inl (by rcases t with rfl|rfl<;>simp))
     have J:I.load s 0 2=some [.int .i64 (l.getD 0 default).id,.int .i64 (l.getD 0 default).key]:=by
      have:=Z.get s (bD Z.ok0 Y) (fun hM=>by have:=A s (.inr hM);omega)
      unfold Hp.load at Y⊢
      rw [this];exact Y
     have a0:=L.lt mA.ok
     have af:=mA.ok
     have Q:=bD mA.ok J
     clear S R R1 Z sw z G C MI IF Y l2 r0
     obtain⟨cs,es,c,f,z,G,C,MI,IF⟩:=L.ex
     have S:=St.init3 (M:=(· ∈[d,y,D])) (h:=I) af (o1:=.row cs 1) (o2:=.row _ 1) (o3:=.map es c) z L.row G L.ne.1.symm L.ne.2.2 L.ne.2.1 (by simp) (by simp) (by simp)
     have sl:=yr (kd:=.i64) (b:=y) (len:=(sw l 0 (l.length-1)).length) (n:=l.length-1) Tryz.t337.1 Tryz.t344.2.1 (cap:=cap) (by have:=C.le;rw [fU]at this;omega)
     simp only [BS,LB,Nat.reduceLT,Nat.reduceEqDiff,XN,X8,Fp,sl,S.ld (b:=d) (o:=0) m1 rfl,S.ld (b:=d) (o:=1) m1 rfl]
     refine aC (aI S (i:=1) rfl ?_ ?_ ?_ ono) ?_
     . exact(by simp only [Fp])
     . exact(by exact bF)
     . exact Xu (lbt rfl)
     clear S;rintro h ⟨S,mo⟩;clear mo;simp only [LC,ag,lay,XC,XD,Nat.reduceAdd]at S
     simp only [BS,S.ld (b:=d) (o:=0) m1 rfl,S.ld (b:=d) (o:=1) m1 rfl]
     refine aE (aJ rfl) (q:=0) (ps:=[]) (by kernel_rfl) ?_
     have T: ¬s∈[d,y,D]:=fun O=>by
      have:=A s (by simpa using O)
      omega
     have U:I.load s 0 1=some [.int .i64 (l.getD 0 default).id]:=by have:=nY J (i:=0) (m:=1) (by omega);simpa using this
     have ai:I.load s 1 1=some [.int .i64 (l.getD 0 default).key]:=by have:=nY J (i:=1) (m:=1) (by omega);simpa using this
     simp only [BS,LB,cls,Nat.reduceLT,Nat.reduceEqDiff,Nat.reduceAdd,Nat.reducePow,Nat.reduceDiv,Nat.reduceMod,Nat.reduceLeDiff,Fp,S.old U T,S.ld (b:=d) (o:=1) m1 rfl]
     refine dn_del (S.mdelI (i:=2) rfl Tryz.t218.1 Tryz.t3.1 MI) ?_
     clear S;rintro h ⟨_,a1,c',ak,S⟩
     simp only [LC]at S
     simp only [BS,LB,Nat.reduceLT,Nat.reduceEqDiff,Nat.reduceAdd,Fp]
     have V:(sw l 0 (l.length-1)).length=l.length:=fU _ _ _
     have w:=ia l (i:=0) (k:=l.length-1) a (by omega) (l.length-1)
     rw [if_pos rfl]at w
     have W:=IF.cut (m:=l.length-1) (by omega)
     rw [w]at W
     have tl:((sw l 0 (l.length-1)).take (l.length-1)).length=l.length-1:=by rw [Xj,V];omega
     have R3:eC h d y D cap N ((sw l 0 (l.length-1)).take (l.length-1)):=S.rowS (C.take _) tl.symm ak W
     have dn:Ret zM 248 [ptrTo d,.int .i64 0] h _:=down_ok S.ok R3 (i:=0) (by
      by_cases e:l.length-1=0
      . exact .inr ⟨List.length_eq_zero_iff.1 (by rw [tl,e]),rfl⟩
      . exact .inl (by omega)) (by omega) (heap_pop ho a)
     refine step_ret dn ?_
     rintro r h ⟨fB,l',R',pm,al⟩
     have mB:Mo (· ∈[d,y,D]) I h:=S.fr.trans fB (fun c t=>.inl (by rcases t with rfl|rfl<;>simp))
     have X: ∀{o x},I.load s o 1=some x->h.load s o 1=some x:=fun e=>by
      have:=mB.get s Q T
      unfold Hp.load at e⊢
      rw [this];exact e
     simp only [BS]
     refine aE (aJ rfl) (q:=0) (ps:=[]) (by kernel_rfl) ?_
     simp only [BS,LB,cls,ac,Nat.reduceLT,Nat.reduceEqDiff,Nat.reduceAdd,Nat.reducePow,Nat.reduceDiv,Nat.reduceMod,Nat.reduceLeDiff,Fp,X U,X ai]
     refine .inr ⟨(l.getD 0 default).id,(l.getD 0 default).key,rfl,t.at a,fun u k' hu=>?_,mA.trans mB (fun c t=>.inl t),⟨d,D,l',rfl,al,(t.pop a).perm pm,fun x hx=>?_,.inr ⟨y,cap,rfl,R'⟩⟩⟩
     . obtain⟨j,hj,e⟩:=t.idx hu
       have:=yd ho j hj
       rw [e]at this
       unfold Ab.hle at this
       simp only []at this
       omega
     . exact hlt x ((rG l a (by omega)).mem_iff.1 (List.mem_of_mem_take (pm.mem_iff.1 hx)))
end
end Go.Ab

end
section
namespace Go.Ab
def IterN(E:Env)(g:FuncId)(a post:List Value)(h0:Hp)(D:Nat->Prop)(xs:List (List Value)):Prop:=
 ∀b J Z,(∀v h,¬Z (.pan v) h)->Yld E b J Z xs-> ∀h F,ItS h0 D h F->J 0 h F->du E g (a++[.func (.yield b) #[] #[]]++post) none h (YQ J Z xs.length)
theorem iter_useN{E:Env}{g:FuncId}{a post:List Value}{h0:Hp}{D:Nat->Prop}{xs:List (List Value)}(H:IterN E g a post h0 D xs){c:Nat}{J:Nat->Hp->List Nat->Prop}{Z:Out->Hp->Prop}(i: ∀v h,¬Z (.pan v) h)(Y:Yld E c J Z xs)
 {h:Hp} {F:List Nat} (d:Mo (fun b=> ¬D b) h0 h) (j: ∀b∈F,b<h0.n-> ¬D b) (f:J 0 h F):du E g (a++[.func (.yield c) #[] #[]]++post) none h (YQ J Z xs.length):=
 H c J Z i Y h F ⟨d.ok,d.n,fun b e k=>d.get b e (fun l=>l k),fun b e h=>j b e h.1 h.2,(Y.lt 0 h F f).2⟩ f
theorem dn_yield{E:Env}{cx:Cx}{Q:eh}{a:List Oper}{q:Nat}{ps:List (Nat×Nat)}{o:Oper}{os:List Oper}{i:Nat}{k:List Fr}{l:Loc}{d:Hp->List (Nat×Tch)}{h0 h:Hp}{D:Nat->Prop}{e j:Nat}{J:Nat->Hp->List Nat->Prop}{Z:Out->Hp->Prop}{xs:List (List Value)}{x:List Value}{F:List Nat}
 (f: ∀v h,¬Z (.pan v) h) (Y:Yld E e J Z xs) (s:ItS h0 D h F) (g:J j h F) (m:xs[j]? =some x)
 (n: ∀h' F',J (j+1) h' F'->ItS h0 D h' F'->Mo (· ∈F) h h'->(∀b∈F',b∈F\/h.n<=b)->Run E (lim E) cx Q (.opsD a q ps os (i+1) (d h')::k) .normal (l.put o.dst (.bool true)) h')
 (k2: ∀h',Z (.ret (.bool false)) h'->h'.t.Sized h'.n->Run E (lim E) cx Q (.opsD a q ps os (i+1) (d h')::k) .normal (l.put o.dst (.bool false)) h'):DN E cx Q a q ps o os i k l d (some (.yield e x,h)):=by
 obtain⟨p,h',r,t⟩:=Y.round j x h F m g
 refine⟨p,h',r,?_⟩
 rcases t with⟨rfl,F',a,b,c⟩|⟨rfl,a,b⟩|⟨⟨v,rfl⟩,a⟩
 . exact n h' F' a (s.mo b c (Y.lt _ _ _ a).2) b c
 . exact k2 h' a b
 . exact f v h' a
def iv(h h':Hp):Prop:= ∀b,b<h.n->h'.get b=h.get b
theorem iv.load{h h':Hp}(a:h.t.Sized h.n)(g:iv h h'){b o n:Nat}{l:List Value}(e:h.load b o n=some l):h'.load b o n=some l:=by
 have:=g b (bD a e)
 unfold Hp.load at e⊢
 rw [this];exact e
theorem iv.row{h h':Hp}(a:h.t.Sized h.n)(g:iv h h'){b:Nat}{l:List Value}{md:Nat}(r:Row h b l md):Row h' b l md:=Row.of_get (g b (r.lt a)) r
theorem az.keep{α:Type}{h h':Hp}{k:Nat}{enc:α->List Value}{v:Value}{xs:List α}(a:h.t.Sized h.n)(g:iv h h')(s:az h k enc v xs):az h' k enc v xs:=by
 rcases s with s|⟨b,o,s,c,d,e,f⟩
 . exact .inl s
 . exact .inr ⟨b,o,s,c,d,e,g.load a f⟩
theorem fj.keep{h h':Hp}{v:Value}{m N:Nat}{R:Nat->List Nat}(d:h.t.Sized h.n)(g:iv h h')(r:fj h m v N R):fj h' m v N R:=by
 obtain⟨e,f,j,k,l,n,o⟩:=r
 exact⟨e,f,j,k,g.row d l,n,fun i p=>by
  obtain⟨w,a,b,c⟩:=o i p
  exact⟨w,a,b.keep d g,c⟩⟩
theorem bL.keep{h h':Hp}{m:Nat}{p:Value}{d:Gra}(a:h.t.Sized h.n)(g:iv h h')(n:bL h m p d):bL h' m p d:=by
 obtain⟨b,e,f,i,j,k,l,o,c,q,r,s,t⟩:=n.ex
 exact⟨b,e,f,i,j,k,l,g.row a o,⟨c.X.keep a g,c.Y.keep a g,c.A.keep a g⟩,q.keep a g,r.keep a g,s,t⟩
theorem Gr.keep{h h':Hp}(g:Gr h h'):iv h h':=g.get
theorem iv.trans{a b c:Hp}(x:iv a b)(n:a.n<=b.n)(y:iv b c):iv a c:=fun i d=>(y i (XF d n)).trans (x i d)
theorem ItS.keep{hq h0 h:Hp}{D:Nat->Prop}{F:List Nat}(s:ItS h0 D h F)(g:iv hq h0)(n:hq.n<=h0.n)(d: ∀c,c<hq.n->D c):iv hq h:=fun b a=>(s.data b (XF a n) (d b a)).trans (g b a)
theorem ue{n:Int}(a:0<=n)(b:n<18446744073709551616):aq .u64 n=n:=by
 obtain⟨m,rfl⟩:=Int.eq_ofNat_of_zero_le a
 show aq .u64 (.ofNat m)=_
 unfold aq
 simp only [hf,sgn,pw]
 have:Nat.blt m 18446744073709551616=true:=by rw [Yf];omega
 rw [this];rfl
theorem b_andU{E:Env}{t:TypeId}{x y:Operand}{N:Nat}(h:N<4294967296):bE E .and t x y (.int .u64 (N:Int)) (.int .u64 4294967295)=some (.int .u64 (N:Int)):=by
 have a:Nat.blt N 18446744073709551616=true:=by rw [Yf];omega
 have b:Nat.land N 4294967295=N:=by
  have:=Nat.and_two_pow_sub_one_eq_mod N 32
  rw [show(2 ^32-1:Nat)=4294967295 from rfl,show(2 ^32:Nat)=4294967296 from rfl,Nat.mod_eq_of_lt h]at this
  exact this
 have e3:=ue (n:=(N:Int)) (by omega) (by omega)
 have c:pE .and .u64 (.ofNat N) (.ofNat 4294967295)=some (aq .u64 (.ofNat (Nat.land N 4294967295))):=by
  simp only [pE,pw]
  rw [a];rfl
 show(pE .and .u64 (.ofNat N) (.ofNat 4294967295)).map _=_
 rw [c,b]
 show some (Value.int .u64 (aq .u64 (N:Int)))=_
 rw [e3]
theorem b_shrU{E:Env}{t:TypeId}{x y:Operand}{kd:IntKind}{N:Nat}(h:N<4294967296):bE E .shr t x y (.int .u64 (N:Int)) (.int kd 32)=some (.int .u64 0):=by
 have e:N/Nat.pow 2 (bif XQ 32 (bitsOf .u64)then 32 else bitsOf .u64)=0:=by
  show N/4294967296=0
  exact Nat.div_eq_of_lt h
 show(qi .shr .u64 (.ofNat N) (.ofNat 32)).map _=_
 show some (Value.int .u64 (.ofNat (N/Nat.pow 2 (bif XQ 32 (bitsOf .u64)then 32 else bitsOf .u64))))=_
 rw [e];rfl
end Go.Ab

end
section
namespace Go.Ab
open Go.Proofs
set_option maxRecDepth 10000
def Tryz.F0h:=aj t1<|aj t2<|aj t3<|aj t4<|t33
def Tryz.F0X:=aj t1<|aj t2<|aj t3<|aj t4<|aj t24<|aj t29<|aj Z0<|aj t32<|aj t33<|aj Z2<|aj t189<|Z1
def Tryz.F0i:=aj t1<|aj t2<|aj t3<|aj t4<|aj t29<|Z2
def Tryz.F0Y:=aj t1<|aj t2<|aj t3<|aj t4<|aj t33<|t189
def Tryz.F0j:=aj t1<|aj t2<|aj t3<|aj t4<|aj t24<|aj t29<|aj Z0<|aj t32<|aj t33<|aj Z2<|aj t189<|Z1
def Tryz.F0Z:=aj t1<|aj t2<|aj t3<|aj t4<|aj t24<|aj t29<|aj Z0<|aj t32<|aj t33<|aj t189<|Z1
def Tryz.F10:=aj t1<|aj t2<|aj t3<|aj t4<|aj t24<|aj t29<|aj Z0<|aj t32<|aj t33<|aj t189<|Z1
theorem lS{h0:Hp}(f:h0.t.Sized h0.n){α:Type}{enc:α->List Value}(i: ∀x,(enc x).length=1){v:Value}{xs:List α}(j:az h0 1 enc v xs)(q:xs.length<1000000):Ret zM 55 [v] h0 fun r h'=>Gr h0 h'/\az h' 1 enc r xs/\ ∀c,ar r c->h0.n<=c:=by
 have S:=Si f
 rcases j with⟨rfl,rfl⟩|⟨b,o,s,c,rfl,k,l⟩
 . refine ae (n:=8) (rs:=[.tmp 2]) rfl Tryz.e55 rfl rfl rfl (lbt rfl) ?_
   simp only [BS,LB,ac,Nat.reduceLT,Nat.reduceEqDiff,F0h]
   exact⟨S.gr,.inl ⟨rfl,rfl⟩,fun c a=>a.elim⟩
 . refine ae (n:=8) (rs:=[.tmp 2]) rfl Tryz.e55 rfl rfl rfl (lbt rfl) ?_
   simp only [BS,LB,Nat.reduceLT,Nat.reduceEqDiff,F0h]
   refine ah (cB (by exact Tryz.t33.1) (by exact Yr) (by decide) (by rfl)) S ?_;clear S;intro h t S d;simp only [LC,bq,bV,ag,Nat.reduceMul,Nat.reduceAdd,XB,Xv,Xz,Ya]at S
   simp only [BS,LB,Nat.reduceLT,Nat.reduceEqDiff]
   refine gf (S.cloneSl (enc:=enc) (xs:=[]) Tryz.t33.1 Yr (by decide) Tryz.t33.2.2.2.2.2 (.inr ⟨b,o,s,c,rfl,k,S.old l (fun h=>h)⟩) i (by decide) (by simp only [X7,Xv];omega) (S.row m0)) ?_
   rintro h' v ⟨m,g,p,a⟩
   simp only [BS,LB,ac,Nat.reduceLT,Nat.reduceEqDiff]
   refine⟨m.gr,by simpa using p,fun c h=>(a c h).elim (fun e=>by omega) (fun e=>Xs S.fr.n e)⟩
theorem cU{h0:Hp}(d:h0.t.Sized h0.n){p:Value}{a:Gra}{e:Nat}(c:bL h0 e p a):bI zM 54 [p] h0 (.int .i64 a.nodes):=by
 have S:=Si d
 obtain⟨b,g,h,i,j,k,rfl,r,_⟩:=c.ex
 have f:=r.load1 (o:=0) rfl
 refine ae (n:=10) (rs:=[.tmp 2]) rfl Tryz.e54 rfl rfl rfl (lbt rfl) ?_
 simp only [BS,LB,ac,Nat.reduceLT,Nat.reduceEqDiff,F0X,f]
 exact S.gr
theorem oneArc_ok{h0:Hp}(j:h0.t.Sized h0.n){v:Value}{A:List Arc}(f:az h0 3 cE v A){i:Nat}(k:i<A.length):Ret zM 221 [v,.int .i64 i] h0 fun r h'=>Gr h0 h'/\r=.tuple #[.agg ⟨cE A[i]⟩,.bool true]:=by
 have S:=Si j
 have l: ¬((i:Int)<0):=by omega
 have m: ¬((A.length:Int)<=(i:Int)):=by omega
 refine ae (n:=19) (rs:=[.cell 4 99,.tmp 5]) rfl Tryz.e221 rfl rfl rfl (lbt rfl) ?_
 simp only [BS,F0i]
 refine ah aA S ?_;clear S;intro h p S g
 obtain⟨c,o,a,d⟩:=(f.gr S.gr).ix (kd:=.i64) g8 k
 simp only [BS,LB,Nat.reduceLT,Nat.reduceEqDiff,F0i,f.lenq,l,m,a,d]
 refine aC (S.store (i:=0) rfl ?_ ?_ rfl rfl ?_ ono) ?_
 . exact(by exact Tryz.t99.2.1)
 . exact(by intro x e;cases e)
 . exact lbt rfl
 clear S;rintro h ⟨S,q⟩;clear q;simp only [LC,ag,lay,XC,XD,Nat.reduceAdd]at S
 simp only [BS,ac,cE]
 refine(eu (by decide) (by simp only [aO,ab,Nat.reduceEqDiff,reduceIte];exact cF Tryz.t99.1 Tryz.t99.2.1 (S.lds (b:=p) (o:=0) (n:=3) m0 (lbt rfl)))).2 ?_
 refine(eQ (by decide)).2 (eJ.2 ?_)
 exact⟨S.gr,rfl⟩
theorem uX{h0:Hp}(c:h0.t.Sized h0.n){m:Nat}{v:Value}{N:Nat}{R:Nat->List Nat}(d:fj h0 m v N R){i:Nat}(a:i<N):Ret zM 197 [v,.int .i64 i] h0 fun r h'=>Gr h0 h'/\ ∃w,r=.tuple #[w,.bool true]/\az h' 1 cI w (R i):=by
 have S:=Si c
 obtain⟨o,p,rfl,_,f,b,g⟩:=d
 obtain⟨w,e,h,_⟩:=g i a
 have j:=f.load1 e
 have k: ¬((i:Int)<0):=by omega
 have l: ¬((N:Int)<=(i:Int)):=by omega
 refine ae (n:=19) (rs:=[.tmp 4,.tmp 5]) rfl Tryz.e197 rfl rfl rfl (lbt rfl) ?_
 simp only [BS,LB,ac,Nat.reduceLT,Nat.reduceEqDiff,F0Y,k,l,a,j]
 exact⟨S.gr,_,rfl,h⟩
theorem qh{h0:Hp}(f:h0.t.Sized h0.n){p:Value}{a:Gra}{j:Nat}(c:bL h0 j p a){i:Nat}(k:i<a.arcs.length):Ret zM 155 [p,.int .i64 i] h0 fun r h'=>Gr h0 h'/\r=.tuple #[.agg ⟨cE a.arcs[i]⟩,.bool true]:=by
 have S:=Si f
 obtain⟨b,t,u,w,y,z,rfl,r,l,_⟩:=c.ex
 have m:=r.load1 (o:=3) rfl
 refine ae (n:=18) (rs:=[.cell 4 99,.tmp 5]) rfl Tryz.e155 rfl rfl rfl (lbt rfl) ?_
 simp only [BS,F0j]
 refine ah aA S ?_;clear S;intro h q S d
 simp only [BS,LB,Nat.reduceLT,Nat.reduceEqDiff,F0j,S.old m (fun h=>h)]
 refine step_ret (oneArc_ok S.ok (l.A.gr S.gr) k) ?_
 rintro v h ⟨g,rfl⟩
 replace S:=S.call g;clear g
 simp only [BS,LB,Nat.reduceLT,Nat.reduceEqDiff,cE]
 refine aC (S.store (i:=0) rfl ?_ ?_ rfl rfl ?_ ono) ?_
 . exact(by exact Tryz.t99.2.1)
 . exact(by intro x e;cases e)
 . exact lbt rfl
 clear S;rintro h ⟨S,s⟩;clear s;simp only [LC,ag,lay,XC,XD,Nat.reduceAdd]at S
 simp only [BS,LB,ac,Nat.reduceLT,Nat.reduceEqDiff]
 refine(eu (by decide) (by simp only [aO,ab,Nat.reduceEqDiff,reduceIte];exact cF Tryz.t99.1 Tryz.t99.2.1 (S.lds (b:=q) (o:=0) (n:=3) m0 (lbt rfl)))).2 ?_
 refine(eQ (by decide)).2 (eJ.2 ?_)
 exact⟨S.gr,rfl⟩
theorem vt{h0:Hp}(e:h0.t.Sized h0.n){p:Value}{a:Gra}{f:Nat}(c:bL h0 f p a)(j:a.arcs.length<1000){i:Nat}(k:i<a.nodes):Ret zM 115 [p,.int .i64 i] h0 fun r h'=>Gr h0 h'/\az h' 1 cI r (outs a.arcs Arc.s a.arcs.length i)/\ ∀c,ar r c->h0.n<=c:=by
 have S:=Si e
 obtain⟨b,t,u,x,y,z,rfl,r,A,l,B,_⟩:=c.ex
 have m:=r.load1 (o:=4) rfl
 refine ae (n:=20) (rs:=[.tmp 4]) rfl Tryz.e115 rfl rfl rfl (lbt rfl) ?_
 simp only [BS,LB,Nat.reduceLT,Nat.reduceEqDiff,F0Z,m]
 refine step_ret (uX S.ok l k) ?_
 rintro v h ⟨g,w,rfl,d⟩
 replace S:=S.call g;clear g
 simp only [BS,LB,Nat.reduceLT,Nat.reduceEqDiff]
 have q:=S.fr.n
 have s:=lh a.arcs Arc.s a.arcs.length i
 refine step_ret (lS S.ok hI d (by omega)) ?_;intro v h ⟨g,d,hc⟩;replace S:=S.call g;clear g
 simp only [BS,LB,ac,Nat.reduceLT,Nat.reduceEqDiff]
 exact⟨S.gr,d,fun c h=>Xs q (hc c h)⟩
theorem yg{h0:Hp}(e:h0.t.Sized h0.n){p:Value}{a:Gra}{f:Nat}(c:bL h0 f p a)(j:a.arcs.length<1000){i:Nat}(k:i<a.nodes):Ret zM 117 [p,.int .i64 i] h0 fun r h'=>Gr h0 h'/\az h' 1 cI r (outs a.arcs Arc.t a.arcs.length i)/\ ∀c,ar r c->h0.n<=c:=by
 have S:=Si e
 obtain⟨b,t,u,x,y,z,rfl,r,A,B,l,_⟩:=c.ex
 have m:=r.load1 (o:=5) rfl
 refine ae (n:=20) (rs:=[.tmp 4]) rfl Tryz.e117 rfl rfl rfl (lbt rfl) ?_
 simp only [BS,LB,Nat.reduceLT,Nat.reduceEqDiff,F10,m]
 refine step_ret (uX S.ok l k) ?_
 rintro v h ⟨g,w,rfl,d⟩
 replace S:=S.call g;clear g
 simp only [BS,LB,Nat.reduceLT,Nat.reduceEqDiff]
 have q:=S.fr.n
 have s:=lh a.arcs Arc.t a.arcs.length i
 refine step_ret (lS S.ok hI d (by omega)) ?_;intro v h ⟨g,d,hc⟩;replace S:=S.call g;clear g
 simp only [BS,LB,ac,Nat.reduceLT,Nat.reduceEqDiff]
 exact⟨S.gr,d,fun c h=>Xs q (hc c h)⟩
theorem mul64_ok{h0:Hp}(b:h0.t.Sized h0.n){N:Nat}(i:N<1000):bI zM 269 [.int .u64 1,.int .u64 N] h0 (.tuple #[.int .u64 0,.int .u64 N]):=by
 have S:=Si b
 have c: ∀{t x y},bE zM .and t x y (.int .u64 1) (.int .u64 4294967295)=some (.int .u64 1):=b_andU (N:=1) (by decide)
 have d: ∀{t x y},bE zM .and t x y (.int .u64 0) (.int .u64 4294967295)=some (.int .u64 0):=b_andU (N:=0) (by decide)
 have e: ∀{t x y a},bE zM .shr t x y (.int .u64 1) (.int a 32)=some (.int .u64 0):=b_shrU (N:=1) (by decide)
 have f: ∀{t x y a},bE zM .shr t x y (.int .u64 0) (.int a 32)=some (.int .u64 0):=b_shrU (N:=0) (by decide)
 have g:aq .u64 (N:Int)=(N:Int):=ue (by omega) (by omega)
 have h:aq .u64 0=0:=rfl
 refine ae (n:=51) (rs:=[.tmp 4,.tmp 5]) rfl Tryz.e269 rfl rfl rfl (lbt rfl) ?_
 simp only [BS,LB,ac,Nat.reduceLT,Nat.reduceEqDiff,c,d,e,f,b_andU (N:=N) (by omega),b_shrU (N:=N) (by omega),Int.one_mul,Int.zero_mul,Int.mul_zero,Int.add_zero,g,h]
 exact S.gr
theorem mul_ok{h0:Hp}(a:h0.t.Sized h0.n){N:Nat}(b:N<1000):bI zM 250 [.int .u64 1,.int .u64 N] h0 (.tuple #[.int .u64 0,.int .u64 N]):=by
 have S:=Si a
 refine ae (n:=30) (rs:=[.tmp 4,.tmp 5]) rfl Tryz.e250 rfl rfl rfl (lbt rfl) ?_
 simp only [BS,LB,Nat.reduceLT,Nat.reduceEqDiff]
 refine an (mul64_ok S.ok b) ?_;intro h g;replace S:=S.call g;clear g
 simp only [BS,LB,ac,Nat.reduceLT,Nat.reduceEqDiff]
 exact S.gr
def lmax:List Int->Int
 | []=>0
 |x::a=>a.foldl max x
def lK(h:Hp)(n:Nat)(p:Value)(m:List Int):Prop:= ∃b v,p=ptrTo b/\Row h b [v,.int .i64 (lmax m+1)] 1/\az h 1 (encI .i64) v m/\n<=b/\ ∀c,ar v c->n<=c
theorem lK.mo{M:Nat->Prop}{h h':Hp}{n:Nat}{p:Value}{m:List Int}(c:lK h n p m)(g:Mo M h h')(a: ∀b,M b->b<n):lK h' n p m:=by
 obtain⟨b,v,e,r,s,f,d⟩:=c
 exact⟨b,v,e,g.has (o:=.row _ 1) r (fun h=>by have:=a _ h;omega),s.mo g (fun c i j=>by have:=a _ j;have:=d c i;omega),f,d⟩
theorem lK.gr{h h':Hp}{n:Nat}{p:Value}{m:List Int}(c:lK h n p m)(g:Gr h h'):lK h' n p m:=c.mo (M:=NoM) g.fr (fun _ h=>h.elim)
end Go.Ab
end
section
namespace Go.Ab
theorem Wk.trans{B:List Arc}{a b c x y:Nat}(h:Wk B a b x)(k:Wk B b c y):Wk B a c (x+y):=by
 induction k with
 |nil=>exact h
 | @snoc w e d _ f=>exact Wk.snoc' f d rfl rfl (by omega)
theorem Wk.back{B C:List Arc}(c: ∀a∈B,∃b∈C,b.s=a.t/\b.t=a.s/\b.w=a.w){m v w x y:Nat}(h:Wk B v w x)(k:Wk C m w y):Wk C m v (x+y):=by
 induction h generalizing y with
 |nil=>rw [Xv];exact k
 | @snoc z e d _ f=>
   obtain⟨b,g,i,j,e3⟩:=c e d
   have:=f (Wk.snoc' k g i j rfl)
   rw [e3]at this
   rw [show z+e.w+y=z+(y+e.w) by omega];exact this
theorem IsD.wk{B:List Arc}{s v x w:Nat}(h:IsD B s v x)(k:Wk B s v w):x<FAR/\x<=w/\Wk B s v x:=by
 rcases h with⟨a,b,c⟩|⟨a,b⟩
 . exact⟨a,c w k,b⟩
 . exact absurd k (b w)
theorem IsD.far{B:List Arc}{s v x:Nat}(h:IsD B s v x)(d:x<FAR):Wk B s v x:=by
 rcases h with⟨a,b,c⟩|⟨a,b⟩
 . exact b
 . omega
end Go.Ab

end
section
namespace Go.Ab
structure Ev where
 kind:Nat
 id:Nat
 lab:Nat
def encE(e:Ev):List Value:=[.int .i64 e.kind,.int .i64 0,.int .i64 e.id,.int .i64 e.lab]
structure SS where
 K:Nat->Option Int
 L:Nat->Nat
 P:Nat->List Nat
 O:List Nat
 ev:List Ev
structure Fd where
 dist:Nat
 arcs:List Nat
 ev:List Ev
def iH(K:Nat->Option Int)(v:Nat)(k:Int):Prop:=K v=some k/\ ∀u a,K u=some a->k<a\/(k=a/\v<=u)
theorem iH.uniq{K:Nat->Option Int}{v u:Nat}{k k':Int}(h:iH K v k)(g:iH K u k'):v=u/\k=k':=by
 have a:=h.2 _ _ g.1
 have b:=g.2 _ _ h.1
 omega
def updP(P:Nat->List Nat)(v:Nat)(l:List Nat):Nat->List Nat:=fun u=>if u=v then l else P u
def oZ(pi:Nat->Int)(σ:SS)(v lab:Nat)(p:List Nat):SS:=
 if v∈σ.O\/(FAR:Int)<=pi v\/((σ.K v).isSome=true/\σ.L v<=lab)then σ else⟨ct σ.K v (some (lab+pi v)),jF σ.L v lab,updP σ.P v p,σ.O,σ.ev⟩
def im(σ:SS)(v:Nat):SS:=⟨ct σ.K v none,σ.L,σ.P,σ.O++[v],σ.ev++[⟨0,v,σ.L v⟩]⟩
def evS(σ:SS)(e:Ev):SS:=⟨σ.K,σ.L,σ.P,σ.O,σ.ev++[e]⟩
def scan1(A:List Arc)(al:Nat->Bool)(pi:Nat->Int)(v:Nat)(σ:SS)(a:Nat):SS:=
 if al a=true then oZ pi (evS σ ⟨1,a,0⟩) (A.getD a default).t (σ.L v+(A.getD a default).w) (a::σ.P v)else σ
def scanS(A:List Arc)(al:Nat->Bool)(pi:Nat->Int)(v:Nat)(σ:SS):SS:=(outs A Arc.s A.length v).foldl (scan1 A al pi v) σ
inductive Ends(A:List Arc)(al:Nat->Bool)(pi:Nat->Int)(to:Nat):SS->Fd->Prop where
 |none {σ:SS}:(∀v,σ.K v=none)->Ends A al pi to σ ⟨FAR,[],σ.ev⟩
 |hit {σ:SS} {k:Int}:iH σ.K to k->Ends A al pi to σ ⟨σ.L to,(σ.P to).reverse,(im σ to).ev⟩
 |step {σ:SS} {v:Nat} {k:Int} {r:Fd}:iH σ.K v k->v≠to->Ends A al pi to (scanS A al pi v (im σ v)) r->Ends A al pi to σ r
theorem Ends.uniq{A:List Arc}{al:Nat->Bool}{pi:Nat->Int}{to:Nat}{σ:SS}{r q:Fd}(h:Ends A al pi to σ r)(g:Ends A al pi to σ q):r=q:=by
 induction h with
 | none c=>
   cases g with
   |none _=>rfl
   |hit a=>have:=a.1;rw [c]at this;cases this
   |step a _ _=>have:=a.1;rw [c]at this;cases this
 | hit a=>
   cases g with
   |none c=>have:=a.1;rw [c]at this;cases this
   |hit _=>rfl
   |step d b _=>exact absurd (d.uniq a).1 b
 | step a b _ e=>
   cases g with
   |none c=>have:=a.1;rw [c]at this;cases this
   |hit d=>exact absurd (a.uniq d).1 b
   | step d _ f=>
     obtain⟨rfl,_⟩:=a.uniq d
     exact e f
section
variable{A:List Arc}{N s:Nat}{al:Nat->Bool}{pi:Nat->Int}{σ:SS}
structure Sv(A:List Arc)(N s:Nat)(al:Nat->Bool)(pi:Nat->Int)(σ:SS):Prop where
 nd:σ.O.Nodup
 lt: ∀v∈σ.O,v<N
 op: ∀v k,σ.K v=some k->v<N/\v∉σ.O/\pi v<(FAR:Int)/\k=σ.L v+pi v
 bd: ∀v,σ.L v<=σ.O.length*bT/\(σ.P v).length<=σ.O.length
 pc: ∀v∈σ.O,pi v<(FAR:Int)
 path: ∀v,(v∈σ.O\/σ.K v≠none)->(v=s/\σ.P v=[]/\σ.L v=0)\/ ∃a,a<A.length/\al a=true/\(A.getD a default).t=v/\(A.getD a default).s∈σ.O/\σ.P v=a::σ.P (A.getD a default).s/\σ.L v=σ.L (A.getD a default).s+(A.getD a default).w
theorem Sv.len(h:Sv A N s al pi σ):σ.O.length<=N:=oa N σ.O h.nd h.lt
theorem Sv.evS(h:Sv A N s al pi σ)(e:Ev):Sv A N s al pi (evS σ e):=⟨h.nd,h.lt,h.op,h.bd,h.pc,h.path⟩
structure kE(σ τ:SS):Prop where
 O:τ.O=σ.O
 L: ∀u∈σ.O,τ.L u=σ.L u
 P: ∀u∈σ.O,τ.P u=σ.P u
theorem kE.refl:kE σ σ:=⟨rfl,fun _ _=>rfl,fun _ _=>rfl⟩
theorem kE.trans{τ b:SS}(h:kE σ τ)(g:kE τ b):kE σ b:=
 ⟨g.O.trans h.O,fun u a=>(g.L u (by rw [h.O];exact a)).trans (h.L u a),fun u a=>(g.P u (by rw [h.O];exact a)).trans (h.P u a)⟩
theorem Sv.reach(h:Sv A N s al pi σ){a lab v:Nat}{p:List Nat}(t:a<A.length)(f:al a=true)(w:(A.getD a default).t=v)(x:v<N)(g:(A.getD a default).s∈σ.O)(y:lab=σ.L (A.getD a default).s+(A.getD a default).w)(z:p=a::σ.P (A.getD a default).s)
 (b1:lab<=σ.O.length*bT) (b2:p.length<=σ.O.length):Sv A N s al pi (oZ pi σ v lab p)/\kE σ (oZ pi σ v lab p):=by
 unfold oZ
 split
 . exact⟨h,.refl⟩
 . rename_i o
   simp only [not_or]at o
   obtain⟨r,F,G⟩:=o
   have q: ∀u∈σ.O,u≠v:=fun u c e=>r (by subst e;exact c)
   refine⟨⟨h.nd,h.lt,fun u k d=>?_,fun u=>⟨?_,?_⟩,h.pc,fun u c=>?_⟩,⟨rfl,fun u c=>by simp [jF,q u c],fun u c=>by simp [updP,q u c]⟩⟩
   . simp only [ct,jF]at d⊢
     split at d
     . rename_i e;subst e;cases d
       exact⟨x,r,by omega,by simp⟩
     . rename_i e
       rw [if_neg e];exact h.op u k d
   . simp only [jF];split
     . exact b1
     . exact(h.bd u).1
   . simp only [updP];split
     . exact b2
     . exact(h.bd u).2
   . have B:jF σ.L v lab (A.getD a default).s=σ.L (A.getD a default).s:=if_neg (q _ g)
     have C:updP σ.P v p (A.getD a default).s=σ.P (A.getD a default).s:=if_neg (q _ g)
     by_cases e:u=v
     . subst e
       refine .inr ⟨a,t,f,w,g,?_,?_⟩
       . show updP σ.P u p u=a::updP σ.P u p (A.getD a default).s
         rw [C,<-z];exact if_pos rfl
       . show jF σ.L u lab u=jF σ.L u lab (A.getD a default).s+(A.getD a default).w
         rw [B,<-y];exact if_pos rfl
     . have i:u∈σ.O\/σ.K u≠none:=by simpa [ct,e]using c
       rcases h.path u i with⟨j,l,m⟩|⟨b,j,l,m,n,D,E⟩
       . exact .inl ⟨j,by simp [updP,e,l],by simp [jF,e,m]⟩
       . refine .inr ⟨b,j,l,m,n,?_,?_⟩
         . simp only [updP,if_neg e,if_neg (q _ n)];exact D
         . simp only [jF,if_neg e,if_neg (q _ n)];exact E
theorem Sv.close(h:Sv A N s al pi σ){v:Nat}{k:Int}(i:σ.K v=some k):Sv A N s al pi (im σ v):=by
 obtain⟨l,m,n,C⟩:=h.op v k i
 have o:(σ.O++[v]).length*bT=σ.O.length*bT+bT:=by rw [Xy,Yc,Nat.succ_mul]
 refine⟨?_,fun u f=>?_,fun u p f=>?_,fun u=>⟨?_,?_⟩,fun u f=>?_,fun u f=>?_⟩
 . show(σ.O++[v]).Nodup
   rw [Xd]
   exact⟨h.nd,by simp,fun a q b j e=>m (by simp at j;subst j;subst e;exact q)⟩
 . rcases List.mem_append.1 f with f|f
   . exact h.lt u f
   . simp at f;subst f;exact l
 . simp only [im,ct]at f⊢
   split at f
   . cases f
   . rename_i e
     obtain⟨a,b,c,d⟩:=h.op u p f
     exact⟨a,by simp [b,e],c,d⟩
 . show σ.L u<=(σ.O++[v]).length*bT
   rw [o];have:=(h.bd u).1;omega
 . show(σ.P u).length<=(σ.O++[v]).length
   have:=(h.bd u).2;simp;omega
 . rcases List.mem_append.1 f with f|f
   . exact h.pc u f
   . simp at f;subst f;exact n
 . have g:u∈σ.O\/σ.K u≠none:=by
    by_cases e:u=v
    . subst e;exact .inr (by rw [i];nofun)
    . simpa [im,ct,e]using f
   rcases h.path u g with r|⟨b,t,w,x,y,z,B⟩
   . exact .inl r
   . exact .inr ⟨b,t,w,x,Xp _ y,z,B⟩
def Room(σ:SS)(v:Nat):Prop:=v∈σ.O/\σ.L v+bT<=σ.O.length*bT/\(σ.P v).length+1<=σ.O.length
theorem Room.keeps{τ:SS}{v:Nat}(r:Room σ v)(k:kE σ τ):Room τ v:=by
 obtain⟨a,b,c⟩:=r
 exact⟨by rw [k.O];exact a,by rw [k.O,k.L v a];exact b,by rw [k.O,k.P v a];exact c⟩
theorem Sv.room(h:Sv A N s al pi σ)(v:Nat):Room (im σ v) v:=by
 have:=h.bd v
 refine⟨Xt _ (by simp),?_,?_⟩
 . show σ.L v+bT<=(σ.O++[v]).length*bT
   rw [Xy,Yc,Nat.succ_mul];omega
 . show(σ.P v).length+1<=(σ.O++[v]).length
   simp;omega
theorem Sv.scan1(h:Sv A N s al pi σ)(e: ∀a∈A,a.t<N/\a.w<=bT){v a:Nat}(r:Room σ v)(b:a<A.length)(f:(A.getD a default).s=v):Sv A N s al pi (scan1 A al pi v σ a)/\kE σ (scan1 A al pi v σ a):=by
 unfold Ab.scan1
 split
 . rename_i c
   obtain⟨g,l,i⟩:=r
   have j:=e (A.getD a default) (by rw [Xb,Xo b];exact XW b)
   subst f
   obtain⟨k,d⟩:=(h.evS ⟨1,a,0⟩).reach (p:=a::σ.P (A.getD a default).s) (lab:=σ.L (A.getD a default).s+(A.getD a default).w) b c rfl j.1 g rfl rfl (by show _<=σ.O.length*bT;omega) (by show(σ.P _).length+1<=σ.O.length;exact i)
   exact⟨k,⟨d.O,d.L,d.P⟩⟩
 . exact⟨h,.refl⟩
theorem Sv.scanL(d: ∀a∈A,a.t<N/\a.w<=bT){v:Nat}: ∀(l:List Nat) {σ:SS},Sv A N s al pi σ->Room σ v->(∀a∈l,a<A.length/\(A.getD a default).s=v)->Sv A N s al pi (l.foldl (Ab.scan1 A al pi v) σ)/\kE σ (l.foldl (Ab.scan1 A al pi v) σ)
 | [],_,h,_,_=>⟨h,.refl⟩
 | a::l,σ,h,r,c=>by
   obtain⟨f,e⟩:=h.scan1 d r (c a (by simp)).1 (c a (by simp)).2
   obtain⟨g,i⟩:=Sv.scanL d l f (r.keeps e) (fun b j=>c b (by simp [j]))
   exact⟨g,e.trans i⟩
theorem Sv.next(h:Sv A N s al pi σ)(b: ∀a∈A,a.t<N/\a.w<=bT){v:Nat}{k:Int}(c:σ.K v=some k):Sv A N s al pi (scanS A al pi v (im σ v))/\kE (im σ v) (scanS A al pi v (im σ v)):=
 Sv.scanL b _ (h.close c) (h.room v) (fun _ d=>jV.1 d)

def InH(A:List Arc)(al:Nat->Bool)(pi:Nat->Int)(a:Nat):Prop:=al a=true/\pi (A.getD a default).s<(FAR:Int)/\pi (A.getD a default).t<(FAR:Int)
instance (a:Nat):Decidable (InH A al pi a):=by unfold InH;infer_instance
def oB(A:List Arc)(al:Nat->Bool)(pi:Nat->Int):List Arc:=((XG A.length).filter fun a=>decide (InH A al pi a)).map fun a=>A.getD a default
theorem uU{a:Arc}:a∈oB A al pi↔ ∃i,i<A.length/\InH A al pi i/\A.getD i default=a:=by
 unfold oB
 simp only [List.mem_map,List.mem_filter,List.mem_range,decide_eq_true_eq,and_assoc]
def Feas(A:List Arc)(al:Nat->Bool)(pi:Nat->Int):Prop:= ∀i,i<A.length->InH A al pi i->pi (A.getD i default).s<=(A.getD i default).w+pi (A.getD i default).t
theorem Sv.wk(h:Sv A N s al pi σ): ∀(n:Nat) {v:Nat},(σ.P v).length<=n->(v∈σ.O\/σ.K v≠none)->Wk (oB A al pi) s v (σ.L v):=by
 have i: ∀v,(v∈σ.O\/σ.K v≠none)->pi v<(FAR:Int):=fun v b=>b.elim (h.pc v) (fun b=>by
  cases d:σ.K v with
  |none=>exact absurd d b
  |some k=>exact(h.op v k d).2.2.1)
 intro n
 induction n with
 | zero=>
   intro v c b
   rcases h.path v b with⟨rfl,_,e⟩|⟨a,_,_,_,_,e,_⟩
   . rw [e];exact .nil
   . rw [e]at c;simp at c
 | succ n j=>
   intro v c b
   rcases h.path v b with⟨rfl,_,e⟩|⟨a,l,m,f,g,o,p⟩
   . rw [e];exact .nil
   . rw [o]at c
     rw [p]
     exact Wk.snoc' (j (v:=(A.getD a default).s) (by simpa using c) (.inl g)) (uU.2 ⟨a,l,⟨m,h.pc _ g,by rw [f];exact i v b⟩,rfl⟩) rfl f rfl
structure Fe(A:List Arc)(s:Nat)(al:Nat->Bool)(pi:Nat->Int)(σ:SS)(ex:Nat->Prop):Prop where
 opt: ∀v∈σ.O,∀w,Wk (oB A al pi) s v w->σ.L v<=w
 fr: ∀a,a<A.length->InH A al pi a->(A.getD a default).s∈σ.O-> ¬ex a->(A.getD a default).t∈σ.O\/(σ.K (A.getD a default).t≠none/\σ.L (A.getD a default).t<=σ.L (A.getD a default).s+(A.getD a default).w)
 st:s∈σ.O\/(σ.K s≠none/\σ.L s=0)
theorem Fe.front(f:Fe A s al pi σ (fun _=>False))(h:Sv A N s al pi σ)(j:Feas A al pi){x w:Nat}(k:Wk (oB A al pi) s x w):x∈σ.O\/ ∃y,σ.K y≠none/\(σ.L y:Int)+pi y<=w+pi x:=by
 induction k with
 |nil=>exact f.st.imp (fun h=>h) (fun⟨a,b⟩=>⟨s,a,by rw [b];omega⟩)
 | @snoc w a l m d=>
   obtain⟨i,e,g,rfl⟩:=uU.1 l
   have o:=j i e g
   rcases d with d|⟨y,c,n⟩
   . rcases f.fr i e g d (fun h=>h)with c|⟨c,n⟩
     . exact .inl c
     . have:=f.opt _ d _ m
       exact .inr ⟨_,c,by omega⟩
   . exact .inr ⟨y,c,by omega⟩
theorem Fe.popped(f:Fe A s al pi σ (fun _=>False))(h:Sv A N s al pi σ)(m:Feas A al pi){v:Nat}{k:Int}(e:iH σ.K v k):
 (∀w,Wk (oB A al pi) s v w->σ.L v<=w)/\ ∀x w,x∉σ.O->Wk (oB A al pi) s x w->(σ.L v:Int)+pi v<=w+pi x:=by
 have d: ∀x w,x∉σ.O->Wk (oB A al pi) s x w->(σ.L v:Int)+pi v<=w+pi x:=fun x w n g=>by
  rcases f.front h m g with i|⟨y,i,o⟩
  . exact absurd i n
  . cases j:σ.K y with
    |none=>exact absurd j i
    | some l=>
      have a:=(h.op y l j).2.2.2
      have b:=(h.op v k e.1).2.2.2
      have c:=e.2 y l j
      omega
 refine⟨fun w g=>?_,d⟩
 have:=d v w (h.op v k e.1).2.1 g
 omega
theorem Fe.close(f:Fe A s al pi σ (fun _=>False))(h:Sv A N s al pi σ)(i:Feas A al pi){v:Nat}{k:Int}(j:iH σ.K v k):Fe A s al pi (im σ v) (fun a=>(A.getD a default).s=v):=by
 have l:=(f.popped h i j).1
 refine⟨fun u c=>?_,fun a m n d o=>?_,?_⟩
 . rcases List.mem_append.1 c with c|c
   . exact f.opt u c
   . simp at c;subst c;exact l
 . rcases List.mem_append.1 d with d|d
   . rcases f.fr a m n d (fun h=>h)with b|⟨b,g⟩
     . exact .inl (Xp _ b)
     . by_cases e:(A.getD a default).t=v
       . exact .inl (Xt _ (List.mem_singleton.2 e))
       . exact .inr ⟨by simp only [im,ct];rw [if_neg e];exact b,g⟩
   . simp at d;exact absurd d o
 . rcases f.st with b|⟨b,g⟩
   . exact .inl (Xp _ b)
   . by_cases e:s=v
     . exact .inl (Xt _ (List.mem_singleton.2 e))
     . exact .inr ⟨by simp only [im,ct];rw [if_neg e];exact b,g⟩
theorem Fe.reach{t ex':Nat->Prop}(f:Fe A s al pi σ t){a v lab:Nat}{p:List Nat}(n:(A.getD a default).t=v)(B:lab=σ.L (A.getD a default).s+(A.getD a default).w)(o: ∀b,¬ex' b-> ¬t b\/(b=a)):Fe A s al pi (oZ pi σ v lab p) ex':=by
 unfold oZ
 split
 . rename_i h
   refine⟨f.opt,fun b l i j g=>?_,f.st⟩
   rcases o b g with c|rfl
   . exact f.fr b l i j c
   . rw [n]
     rcases h with h|h|⟨c,d⟩
     . exact .inl h
     . have:=i.2.2;rw [n]at this;omega
     . exact .inr ⟨fun e=>(by rw [e]at c;cases c),by omega⟩
 . rename_i h
   simp only [not_or]at h
   obtain⟨w,C,y⟩:=h
   have x:=fun c d=>y ⟨c,d⟩
   have q: ∀u∈σ.O,u≠v:=fun u m e=>w (by subst e;exact m)
   refine⟨fun u m=>?_,fun b l i j g=>?_,?_⟩
   . simp only [jF,if_neg (q u m)];exact f.opt u m
   . simp only [jF,ct,if_neg (q _ j)]
     by_cases e:(A.getD b default).t=v
     . right
       simp only [e,if_true]
       refine⟨by nofun,?_⟩
       rcases o b g with c|rfl
       . rcases f.fr b l i j c with d|⟨d,z⟩
         . rw [e]at d;exact absurd d w
         . rw [e]at d z
           have: ¬σ.L v<=lab:=x (by cases r:σ.K v with|none=>exact absurd r d|some k=>rfl)
           omega
       . omega
     . simp only [if_neg e]
       rcases o b g with c|rfl
       . exact f.fr b l i j c
       . exact absurd n e
   . rcases f.st with c|⟨c,d⟩
     . exact .inl c
     . by_cases e:s=v
       . subst e
         have: ¬σ.L s<=lab:=x (by cases r:σ.K s with|none=>exact absurd r c|some k=>rfl)
         omega
       . exact .inr ⟨by simp only [ct,if_neg e];exact c,by simp only [jF,if_neg e];exact d⟩
theorem Fe.exm{b ex':Nat->Prop}(f:Fe A s al pi σ b)(h: ∀a,a<A.length->b a->ex' a):Fe A s al pi σ ex':=
 ⟨f.opt,fun a c d e g=>f.fr a c d e (fun i=>g (h a c i)),f.st⟩
theorem Fe.scan1{e ex':Nat->Prop}(f:Fe A s al pi σ e){a v:Nat}(j:(A.getD a default).s=v)(g: ∀b,¬ex' b-> ¬e b\/(b=a)):Fe A s al pi (scan1 A al pi v σ a) ex':=by
 unfold Ab.scan1
 split
 . subst j
   exact Fe.reach (σ:=evS σ ⟨1,a,0⟩) ⟨f.opt,f.fr,f.st⟩ rfl rfl g
 . rename_i c
   refine⟨f.opt,fun b k i l d=>?_,f.st⟩
   rcases g b d with h|rfl
   . exact f.fr b k i l h
   . exact absurd i.1 c
theorem Fe.scanL{v:Nat}: ∀(l:List Nat) {σ:SS},Fe A s al pi σ (· ∈l)->(∀a∈l,(A.getD a default).s=v)->Fe A s al pi (l.foldl (Ab.scan1 A al pi v) σ) (fun _=>False)
 | [],_,f,_=>f.exm (fun a _ h=>by cases h)
 |a::l,σ,f,d=>Fe.scanL l (f.scan1 (a:=a) (d a (by simp)) (fun b c=>by by_cases e:b=a;exact .inr e;exact .inl (by simp [e,c]))) (fun b c=>d b (by simp [c]))
theorem Fe.next(f:Fe A s al pi σ (fun _=>False))(h:Sv A N s al pi σ)(c:Feas A al pi){v:Nat}{k:Int}(d:iH σ.K v k):Fe A s al pi (scanS A al pi v (im σ v)) (fun _=>False):=
 Fe.scanL _ ((f.close h c d).exm fun a b e=>jV.2 ⟨b,e⟩) (fun a b=>(jV.1 b).2)
theorem Wk.mono{B C:List Arc}(b: ∀a∈B,a∈C){v w:Nat}(h:Wk B s v w):Wk C s v w:=by
 induction h with
 |nil=>exact .nil
 |snoc c _ d=>exact .snoc (b _ c) d
theorem IsD.congr{B C:List Arc}(d: ∀a,a∈B↔a∈C){v x:Nat}(h:IsD B s v x):IsD C s v x:=by
 rcases h with⟨a,b,c⟩|⟨a,b⟩
 . exact .inl ⟨a,b.mono fun a=>(d a).1,fun w e=>c w (e.mono fun a=>(d a).2)⟩
 . exact .inr ⟨a,fun w e=>b w (e.mono fun a=>(d a).2)⟩
end
end Go.Ab

end
section
namespace Go.Ab
theorem xL{E:Env}{t e:TypeId}{b n N:Nat}{kd:IntKind}(c:E.und t=some (.slice e))(d:E.sz e=some 1)(f:n<N):dS E t (.slice (some ⟨b,0,none⟩) N N) (some (.int kd (n:Int))) none none=some (.slice (some ⟨b,n,none⟩) (N-n) (N-n)):=by
 have a: ∀n:Nat,fG (n:Int)=some n:=fun n=>rfl
 have g:XA N n=false:=by
  cases h:XA N n with
  |false=>rfl
  |true=>have:=Yb h;omega
 simp only [dS,c,dZ,d6,a,Xf (Yq f),cond_true,d,Xk,cond_false,g,dH,Xz,Xv]
theorem vj{E:Env}{t e:TypeId}{b n N k:Nat}{kd:IntKind}(c:E.und t=some (.slice e))(d:E.sz e=some k)(f:n<=N):dS E t (.slice (some ⟨b,0,none⟩) N N) none (some (.int kd (n:Int))) none=some (.slice (some ⟨b,0,none⟩) n N):=by
 have a: ∀n:Nat,fG (n:Int)=some n:=fun n=>rfl
 simp only [dS,c,dZ,d6,a,Xf f,cond_true,d,Xk,cond_false,dH,XB,XX,Yn]
 cases XA N 0<;>rfl
section
variable{M:Nat->Prop}{h0 h:Hp}{L:List (Nat×Ob)}{G:List GL}{E:Env}{t e:TypeId}
theorem St.copyO(S:St M h0 h L G){i b o len cap b2 o2 m j:Nat}{k c:Option Nat}{cs l:List Value}(f:L[i]? =some (b,.row cs 1))(n:E.und t=some (.slice e))(p:E.sz e=some 1)(s:0<dJ m len)(g:h.load b2 o2 (dJ m len*1)=some l)(d:o+l.length<=cs.length)(hf:l.all iT=true){ts:List TypeId}:
 ∃h' w,copyV E h (t::ts) (.slice (some ⟨b,o,k⟩) len cap) (.slice (some ⟨b2,o2,c⟩) m j)=some (h',w)/\w=.int .i64 (dJ m len:Nat)/\St M h0 h' (L.set i (b,.row (lay cs o l) 1)) G:=by
 obtain⟨y,q,r⟩:=(S.row (Xc f)).store S.ok ono (o:=o) (vs:=l) d hf
 have a:=load_len g
 refine⟨h.put b y,_,?_,rfl,S.put f r⟩
 simp only [copyV,n,p,g]
 cases l with
 |nil=>simp at a;omega
 |cons x u=>simp only [q];rfl
end
theorem ja{a b:Nat}(h:a<=b):dJ a b=a:=by unfold dJ;rw [Xf h];rfl
theorem rB{a b:Nat}(h:b<=a):dJ a b=b:=by
 unfold dJ
 cases c:XQ a b with
 |false=>rfl
 |true=>have:=lbt c;show a=b;omega
theorem rz{X Z:Value}{n c k:Nat}(e:c<=k):lay (zN n X++zN k Z) n (zN c X)=zN (n+c) X++zN (k-c) Z:=by
 refine Xq fun j=>?_
 rw [iZ (by simp;omega),XL,XM,XM,XL,XL,Xr,Xr,Xr,Xr,Xr]
 by_cases a:j<n
 . rw [if_neg (by omega),if_pos a,if_pos a,if_pos (by omega),if_pos (by omega)]
 . by_cases b:j<n+c
   . rw [if_pos (by omega),if_pos (by omega),if_pos b,if_pos b]
   . rw [if_neg (by omega),if_neg a,if_neg b]
     by_cases d:j-n<k
     . rw [if_pos d,if_pos (by omega)]
     . rw [if_neg d,if_neg (by omega)]
theorem pF(z:Value): ∀n,bq [z] n=zN n z
 |0=>rfl
 |n+1=>by simp [bq,pF z n,List.replicate_succ]
def ClF(O:List Nat)(f:Int->Option Value):Prop:= ∀u:Nat,f (u:Int)=if u∈O then some (.int .i64 1)else none
end Go.Ab

end
section
namespace Go.Ab
section
variable{M:Nat->Prop}{h0 h h':Hp}{L L':List (Nat×Ob)}{G G':List GL}{Fh:List Nat}
theorem St.baseF(S:St M h0 h L G)(Fh:List Nat):St (fun c=>c∈keys L G\/c∈Fh) h h L G:=
 ⟨Mo.refl S.ok,fun p a=>⟨.inr (.inl (fI a)),(S.own p a).2⟩,fun p a=>⟨(S.gown p a).1,fun b d=>.inr (.inl (eo a d))⟩,S.apart⟩
theorem St.rebaseF(S:St M h0 h L G)(e: ∀c∈Fh,h0.n<=c\/M c)(T:St (fun c=>c∈keys L G\/c∈Fh) h h' L' G'):St M h0 h' L' G':=by
 have f: ∀b,h.n<=b\/(b∈keys L G\/b∈Fh)->h0.n<=b\/M b:=fun b a=>a.elim (fun a=>.inl (Xs S.fr.n a)) (fun a=>a.elim S.key_own (e b))
 exact⟨S.fr.trans T.fr fun b a=>(a.elim S.key_own (e b)).symm,fun p d=>⟨f _ (T.own p d).1,(T.own p d).2⟩,fun p d=>⟨(T.gown p d).1,fun b a=>f b ((T.gown p d).2 b a)⟩,T.apart⟩
theorem St.callF(S:St M h0 h L G){i b:Nat}{o o':Ob}(k:L[i]? =some (b,o))(f:Mo (fun c=>c∈Fh\/c=b) h h')(m: ∀c∈Fh,(M c\/h0.n<=c)/\c∉keys L G)(q:Has h' b o'):St M h0 h' (L.set i (b,o')) G:=by
 have n:=S.own _ (Xc k)
 have l:(keys L G)[i]? =some b:=nC k
 refine⟨S.fr.trans f (fun c d=>by rcases d with d|rfl;exact(m c d).1;exact n.1.symm),fun p a=>?_,fun p a=>⟨(S.gown p a).1.of_get fun c d=>?_,(S.gown p a).2⟩,?_⟩
 . rcases ki a with rfl|⟨j,r,a⟩
   . exact⟨n.1,q⟩
   . have g:=S.own p (Xc a)
     refine⟨g.1,g.2.of_get (f.get _ (g.2.lt S.ok) fun e=>?_)⟩
     rcases e with e|e
     . exact(m _ e).2 (fI (Xc a))
     . apply r
       have s:(keys L G)[j]? =some b:=by rw [nC a];rw [e]
       exact om S.apart s l
 . refine f.get c ((S.gown p a).1.lt S.ok d) fun e=>?_
   rcases e with e|e
   . exact(m _ e).2 (eo a d)
   . subst e
     have g:=S.apart
     unfold keys at g
     rw [Xd]at g
     exact g.2.2 c (List.mem_map.2 ⟨_,Xc k,rfl⟩) c (List.mem_filterMap.2 ⟨p,a,d⟩) rfl
 . have:keys (L.set i (b,o')) G=keys L G:=by
    unfold keys
    congr 1
    rw [List.map_set]
    refine Xq fun j=>?_
    rw [XT]
    split
    . rename_i e;subst e
      have:=(List.getElem?_eq_some_iff.1 k).1
      rw [if_pos (by simpa using this),XH,k];rfl
    . rfl
   rw [this];exact S.apart
theorem St.stepF(S:St M h0 h L G)(f:Mo (· ∈Fh) h h')(b: ∀c∈Fh,(M c\/h0.n<=c)/\c∉keys L G):St M h0 h' L G:=
 S.step f (fun c a=>(b c a).1) (fun c a d=>(b c d).2 a)
theorem St.permL(S:St M h0 h L G)(p:L'.Perm L):St M h0 h L' G:=
 ⟨S.fr,fun x a=>S.own x (p.mem_iff.1 a),S.gown,by
  have:(keys L' G).Perm (keys L G):=(p.map Xe).append_right _
  exact this.nodup_iff.2 S.apart⟩
end
theorem St.mono{M M':Nat->Prop}{h0 h:Hp}{L:List (Nat×Ob)}{G:List GL}(S:St M h0 h L G)(c: ∀b,M b->M' b):St M' h0 h L G:=
 ⟨S.fr.mono c,fun p a=>⟨(S.own p a).1.imp (fun h=>h) (c _),(S.own p a).2⟩,fun p a=>⟨(S.gown p a).1,fun b d=>((S.gown p a).2 b d).imp (fun h=>h) (c _)⟩,S.apart⟩
theorem Dj.exm{B:List Arc}{s N:Nat}{O:List Nat}{D:Nat->Nat}{K:Nat->Option Int}{b ex':Arc->Prop}(d:Dj B s N O D K b)(h: ∀a∈B,b a->ex' a):Dj B s N O D K ex':=
 ⟨d.i1,d.i2,d.i2f,d.i3,fun a c e f=>d.i4 a c e (fun g=>f (h a c g)),d.i5,d.nd,d.lt⟩
def noteSl:Value->Option Tch
 | .map (some r)=>some (.blk r)
 | .slice (some a) _ _=>some (.blk a.block)
 |_=>none
theorem wO{ρ:Operand->Value}{b:Bool}{x y:Operand}{ts:Array TypeId}{h h':Hp}:bU ρ b (.call ⟨.builtin .append,#[x,y],ts⟩) h h'=noteSl (ρ x):=by
 simp only [bU,dk,iA,dQ,touch,cond_false]
 cases ρ x<;>first|rfl|(rename_i x;cases x<;>rfl)|(rename_i x _ _;cases x<;>rfl)
theorem pair_x{x:Option Tch}:iW x none=true:=by
 cases x with
 |none=>rfl
 |some b=>cases b<;>rfl
theorem entry_nl{i:Nat}:cg i []=none:=rfl
end Go.Ab

end
section
namespace Go.Ab
open Go.Proofs
set_option maxRecDepth 10000
def labC(N:Nat)(L:Nat->Nat):List Value:=(XG N).map fun v=>.int .i64 (L v:Nat)
def byI:List Nat->Int
 | []=> -1
 |a::_=>(a:Nat)
def byC(N:Nat)(P:Nat->List Nat):List Value:=(XG N).map fun v=>.int .i64 (byI (P v))
def clC(N:Nat)(O:List Nat):List Value:=(XG N).map fun v=>.bool (decide (v∈O))
def srL(br c d e N:Nat)(pn p a b vE:Value)(σ:SS):List (Nat×Ob):=
 [(br,.row [pn,p,.slice (some ⟨c,0,none⟩) N N,.slice (some ⟨d,0,none⟩) N N,.slice (some ⟨e,0,none⟩) N N,a,b,vE] 1),(c,.row (labC N σ.L) 1),(d,.row (byC N σ.P) 1),(e,.row (clC N σ.O) 1)]
def srG(vE:Value)(σ:SS):List GL:=[(vE,4,σ.ev.flatMap encE)]
def mG(h:Hp)(B:List Nat)(br:Nat)(pn a b:Value)(N:Nat)(σ:SS):Prop:=
 ∃e f g p F d,B=keys (srL br e f g N pn (ptrTo p) a b d σ) (srG d σ)++F/\(∀q∈srL br e f g N pn (ptrTo p) a b d σ,Has h q.1 q.2)/\eX h (d,4,σ.ev.flatMap encE)/\(keys (srL br e f g N pn (ptrTo p) a b d σ) (srG d σ)).Nodup/\bC h F (ptrTo p) N σ.K/\ ∀c∈F,c∉keys (srL br e f g N pn (ptrTo p) a b d σ) (srG d σ)
theorem St.ofHas{M:Nat->Prop}{h:Hp}{L:List (Nat×Ob)}{G:List GL}(e:h.t.Sized h.n)(f: ∀q∈L,Has h q.1 q.2)(g: ∀p∈G,eX h p)(nd:(keys L G).Nodup)(d: ∀c∈keys L G,M c):St M h h L G:=
 ⟨Mo.refl e,fun p a=>⟨.inr (d _ (fI a)),f p a⟩,fun p a=>⟨g p a,fun b i=>.inr (d _ (eo a i))⟩,nd⟩
theorem mG.mo{M:Nat->Prop}{h h':Hp}{B:List Nat}{br N:Nat}{pn a c:Value}{σ:SS}(r:mG h B br pn a c N σ)(g:Mo M h h')(e: ∀b∈B,¬M b):mG h' B br pn a c N σ:=by
 obtain⟨k,l,m,p,F,f,rfl,n,i,o,s,t⟩:=r
 refine⟨k,l,m,p,F,f,rfl,fun q j=>g.has (n q j) (e _ (Xp _ (fI j))),i.of_get fun b d=>g.get b (i.lt g.ok0 d) (e b (Xp _ (eo (p:=(f,4,σ.ev.flatMap encE)) m0 d))),o,s.mo g (fun b d=>e b (Xt _ d)),t⟩
theorem mG.gr{h h':Hp}{B:List Nat}{br N:Nat}{pn a b:Value}{σ:SS}(r:mG h B br pn a b N σ)(g:Gr h h'):mG h' B br pn a b N σ:=r.mo (M:=NoM) g.fr (fun _ _ h=>h)
theorem mG.lt{h:Hp}(e:h.t.Sized h.n){B:List Nat}{br N:Nat}{pn b d:Value}{σ:SS}(r:mG h B br pn b d N σ): ∀c∈B,c<h.n:=by
 obtain⟨l,m,n,p,F,o,rfl,f,g,i,j,q⟩:=r
 intro c a
 rcases List.mem_append.1 a with a|a
 . exact(St.ofHas (M:=fun _=>True) e f (fun p k=>by cases k with|head=>exact g|tail _ h=>cases h) i (fun _ _=>trivial)).key_lt a
 . exact j.lt e c a
theorem Gr.mo'{hq h h':Hp}{B:List Nat}(g:Gr hq h)(f:Mo (· ∈B) h h')(hB: ∀c∈B,hq.n<=c):Gr hq h':=((g.fr (M:=NoM)).trans f (fun i a=>.inr (hB i a))).gr
theorem mG.close{M:Nat->Prop}{h0 h:Hp}{br e f g d N:Nat}{F:List Nat}{pn a b vE:Value}{σ:SS}(S:St M h0 h (srL br e f g N pn (ptrTo d) a b vE σ) (srG vE σ))(H:bC h F (ptrTo d) N σ.K)(i: ∀c∈F,c∉keys (srL br e f g N pn (ptrTo d) a b vE σ) (srG vE σ)):
 mG h (keys (srL br e f g N pn (ptrTo d) a b vE σ) (srG vE σ)++F) br pn a b N σ:=
 ⟨e,f,g,d,F,vE,rfl,fun q j=>(S.own q j).2,(S.gown _ m0).1,S.apart,H,i⟩
theorem mG.open{h:Hp}(i:h.t.Sized h.n){B:List Nat}{br N:Nat}{pn a b:Value}{σ:SS}(r:mG h B br pn a b N σ): ∃e f g d F vE,B=keys (srL br e f g N pn (ptrTo d) a b vE σ) (srG vE σ)++F/\St (· ∈B) h h (srL br e f g N pn (ptrTo d) a b vE σ) (srG vE σ)/\bC h F (ptrTo d) N σ.K/\ ∀c∈F,c∉keys (srL br e f g N pn (ptrTo d) a b vE σ) (srG vE σ):=by
 obtain⟨e,f,g,d,F,vE,rfl,j,k,l,m,n⟩:=r
 exact⟨e,f,g,d,F,vE,rfl,St.ofHas i j (fun p o=>by cases o with|head=>exact k|tail _ h=>cases h) l (fun c q=>Xp _ q),m,n⟩
def IterW(E:Env)(g:FuncId)(post:List Value)(h0:Hp)(D W:Nat->Prop)(xs:List (List Value)):Prop:=
 ∀a J Z,(∀v h,¬Z (.pan v) h)->Yld E a J Z xs->(∀i h F c,J i h F->Mo W h c->J i c F)-> ∀h F,ItS h0 D h F->(∀b,W b->h.get b=h0.get b)->(∀b∈F,¬W b)->J 0 h F->du E g ([]++[.func (.yield a) #[] #[]]++post) none h (YQ J Z xs.length)
theorem iter_w{E:Env}{g:FuncId}{post:List Value}{h0:Hp}{D:Nat->Prop}{xs:List (List Value)}(H:IterN E g [] post h0 D xs):IterW E g post h0 D NoM xs:=fun a J Z b Y _ h F s _ _ c=>H a J Z b Y h F s c
theorem nX(l:List Nat):(l.flatMap cI).length=l.length:=by rw [bw hI];omega
theorem pH{h:Hp}{p:GL}(g:eX h p){c:Nat}(a:ar p.1 c):dY p=some c:=by
 rcases g with⟨e,_⟩|⟨b,n,e,_⟩
 . rw [e]at a;exact a.elim
 . obtain⟨v,k,d⟩:=p
   simp only []at e a
   subst e
   exact congrArg some a
def Tryz.FJ:=aj t1<|aj t2<|aj t3<|aj t4<|t33
def rvC(n k:Nat)(f:Nat->Value):List Value:=(XG n).map fun p=>if p<k\/n<=p+k then f (n-1-p)else f p
theorem lB{n k:Nat}{f:Nat->Value}:(rvC n k f).length=n:=by simp [rvC]
theorem pj{n k i:Nat}{f:Nat->Value}(h:i<n):(rvC n k f)[i]? =some (if i<k\/n<=i+k then f (n-1-i)else f i):=kc (F:=fun p=>if p<k\/n<=p+k then f (n-1-p)else f p) h
theorem rvC_step{n k:Nat}{f:Nat->Value}(h:2*k+1<n):((rvC n k f).set k (f (n-1-k))).set (n-1-k) (f k)=rvC n (k+1) f:=by
 refine Xq fun i=>?_
 rw [XT,XT,Xh,lB]
 by_cases a:i<n
 . rw [pj a,pj a]
   by_cases b:n-1-k=i
   . subst b
     rw [if_pos rfl,if_pos a,if_pos (.inr (by omega)),show n-1-(n-1-k)=k by omega]
   . rw [if_neg b]
     by_cases d:k=i
     . subst d
       rw [if_pos rfl,if_pos a,if_pos (.inl (by omega))]
     . rw [if_neg d]
       congr 1
       by_cases c:i<k\/n<=i+k
       . rw [if_pos c,if_pos (by omega)]
       . rw [if_neg c,if_neg (by omega)]
 . rw [if_neg (by omega),if_neg (by omega)]
   rw [Xl (by rw [lB];omega),Xl (by rw [lB];omega)]
theorem rvC_zero{xs:List Nat}:xs.flatMap cI=rvC xs.length 0 fun p=>.int .i64 (xs.getD p 0:Nat):=by
 have e:xs.flatMap cI=xs.map fun(x:Nat)=>Value.int .i64 x:=by
  rw [Xm,XP,Xm];rfl
 rw [e]
 refine Xq fun i=>?_
 by_cases a:i<xs.length
 . rw [pj a,if_neg (by omega)];simp [a]
 . rw [Xl (by simpa using a),Xl (by rw [lB];omega)]
theorem rvC_done{xs:List Nat}{k:Nat}(h:xs.length<=2*k+1)(d:2*k<=xs.length):rvC xs.length k (fun p=>.int .i64 (xs.getD p 0:Nat))=xs.reverse.flatMap cI:=by
 have e:xs.reverse.flatMap cI=xs.reverse.map fun(x:Nat)=>Value.int .i64 x:=by
  rw [Xm,XP,Xm];rfl
 rw [e]
 refine Xq fun i=>?_
 by_cases b:i<xs.length
 . rw [pj b,XH,List.getElem?_reverse b]
   have a:xs.length-1-i<xs.length:=by omega
   rw [Xo a]
   have g: ∀{j:Nat} (a:j<xs.length),xs.getD j 0=xs[j]:=fun a=>by simp [Xb,a]
   by_cases c:i<k\/xs.length<=i+k
   . rw [if_pos c,g a];rfl
   . rw [if_neg c]
     have:i=xs.length-1-i:=by omega
     rw [g b]
     simp only [XN]
     congr 3
     simp only [<-this]
 . rw [Xl (by rw [lB];omega),Xl (by simpa using b)]
theorem yW{h0:Hp}(t:h0.t.Sized h0.n){v:Value}{xs:List Nat}(x:eX h0 (v,1,xs.flatMap cI))(K:xs.length<1000000):
 Ret zM 123 [v] h0 fun _ h'=>Mo (ar v) h0 h'/\eX h' (v,1,xs.reverse.flatMap cI):=by
 rcases x with⟨g,j⟩|⟨b,n,g,j,e3⟩
 . simp only []at g j
   subst g
   have:xs=[]:=by
    cases xs with
    |nil=>rfl
    |cons a l=>simp [cI]at j
   subst this
   have S:=Si t
   refine ae (n:=28) (rs:=[]) rfl Tryz.e123 rfl rfl rfl (lbt rfl) ?_
   simp only [BS,LB,Nat.reduceLT,Nat.reduceEqDiff,Int.reduceSub,Xa,FJ]
   rw [aZ]
   have y:aq .i64 (-1)= -1:=rfl
   have z: ¬((0:Int)< -1):=by omega
   simp only [BS,LB,Nat.reduceLT,Nat.reduceEqDiff,y,z]
   exact⟨S.gr.fr,.inl ⟨rfl,rfl⟩⟩
 . simp only []at g j e3
   subst g
   have A:n=xs.length:=by rw [nX]at j;omega
   subst A
   rw [rvC_zero]at e3
   have S:=St.init1 t (o:=.row _ 1) e3
   have B:aq .i64 ((xs.length:Int)-1)=(xs.length:Int)-1:=by rw [wrap64]<;>omega
   refine ae (n:=28) (rs:=[]) rfl Tryz.e123 rfl rfl rfl (lbt rfl) ?_
   simp only [BS,LB,Nat.reduceLT,Nat.reduceEqDiff,FJ,B]
   refine cm (fun(k:Nat) r h=>2*k<=xs.length/\St (· =b) h0 h [(b,.row (rvC xs.length k fun p=>.int .i64 (xs.getD p 0:Nat)) 1)] []/\r 0=.slice (some ⟨b,0,some 1⟩) xs.length xs.length/\r 2=.int .i64 (k:Nat)/\r 3=.int .i64 ((xs.length:Int)-1-k)) (fun k=>xs.length-k) ?_ 0 _ _ ?_
   . clear S
     intro k C r L ⟨hk,S,r0,r2,r3⟩
     by_cases hlt:2*k+1<xs.length
     . have s:(k:Int)<(xs.length:Int)-1-k:=by omega
       have e:k<xs.length:=by omega
       have d:xs.length-1-k<xs.length:=by omega
       have D:(xs.length:Int)-1-k=((xs.length-1-k:Nat):Int):=by omega
       have E:aq .i64 ((k:Int)+1)=((k+1:Nat):Int):=by rw [wrap64]<;>omega
       have F:aq .i64 (((xs.length-1-k:Nat):Int)-1)=(xs.length:Int)-1-(k+1:Nat):=by rw [wrap64]<;>omega
       have u:=(S.row (b:=b) m0).load1 (pj e)
       have w:=(S.row (b:=b) m0).load1 (pj d)
       rw [if_neg (by omega)]at u w
       rw [D]at r3 s
       simp only [BS,LB,Nat.reduceLT,Nat.reduceEqDiff,r2,r3,s]
       refine aE (aJ rfl) (q:=0) (ps:=[]) (by kernel_rfl) ?_
       simp only [BS,LB,cls,Nat.reduceLT,Nat.reduceEqDiff,Nat.reduceAdd,Nat.reducePow,Nat.reduceDiv,Nat.reduceMod,Nat.reduceLeDiff,FJ,r0,r2,r3,e,d,u,w]
       refine dP (aI S (i:=0) rfl Tryz.t3.2.2.1 bM (by rw [lB];exact e) ono) ?_
       clear S;rintro M ⟨S,G⟩
       simp only [LC]at S
       simp only [BS,LB,cls,Nat.reduceLT,Nat.reduceEqDiff,Nat.reduceAdd,Nat.reducePow,Nat.reduceDiv,Nat.reduceMod,Nat.reduceLeDiff,FJ,d]
       refine dP (aI S (i:=0) rfl Tryz.t3.2.2.1 bM (by rw [Xh,lB];exact d) ono) ?_
       clear S;rintro N ⟨S,H⟩
       simp only [LC]at S
       have I:=rvC_step (f:=fun p=>.int .i64 (xs.getD p 0:Nat)) hlt
       rw [I]at S
       simp only [BS,LB,Nat.reduceLT,Nat.reduceEqDiff,Nat.reduceAdd,r2,r3,E,F]
       exact C (k+1) _ _ (by omega) ⟨by omega,S,by simp [aa,r0],by simp [aa],by simp [aa]⟩
     . have s: ¬(k:Int)<(xs.length:Int)-1-k:=by omega
       simp only [BS,LB,Nat.reduceLT,Nat.reduceEqDiff,r2,r3,s]
       have m:=S.row m0
       rw [rvC_done (by omega) hk]at m
       exact⟨S.fr.mono (fun c J=>Eq.symm J),.inr ⟨b,xs.length,rfl,by show xs.length*1=(xs.reverse.flatMap cI).length;rw [nX,List.length_reverse];omega,m⟩⟩
   . exact⟨by omega,S,by simp [aa,bR],by simp [aa],by simp [aa]⟩

def Tryz.FK:=aj t1<|aj t2<|aj t3<|aj t4<|aj t5<|aj t6<|aj Z3<|aj Z5<|aj t9<|aj t10<|aj t20<|aj t24<|t142
def Tryz.FL:=aj t1<|aj t2<|aj t3<|aj t4<|aj t5<|aj t6<|aj Z3<|aj Z5<|aj t9<|aj t10<|aj t20<|aj t33<|t142
theorem rep64_ok{h0:Hp}(t:h0.t.Sized h0.n){v:Value}{x:Int}{N:Nat}(u:az h0 1 (encI .i64) v [x])(a:1<=N)(y:N<1000):Ret zM 210 [v,.int .i64 N] h0 fun r h'=>Gr h0 h'/\ ∃b,r=.slice (some ⟨b,0,none⟩) N N/\h0.n<=b/\Row h' b (zN N (.int .i64 x)) 1:=by
 have S:=Si t
 have z: ¬((N:Int)<0):=by omega
 have A: ¬((9223372036854775807:Int)<(N:Int)):=by omega
 have B:aq .u64 (N:Int)=(N:Int):=ue (by omega) (by omega)
 have C:aq .u64 1=1:=rfl
 have D:aq .i64 (N:Int)=(N:Int):=by rw [wrap64]<;>omega
 obtain⟨J,K,L,M,rfl,E,F⟩: ∃b o s c,v=.slice (some ⟨b,o,s⟩) 1 c/\1<=c/\h0.load b o 1=some [.int .i64 x]:=by
  rcases u with⟨_,h⟩|⟨b,o,s,c,rfl,G,H⟩
  . cases h
  . exact⟨b,o,s,c,rfl,G,H⟩
 refine ae (n:=48) (rs:=[.tmp 4]) rfl Tryz.e210 rfl rfl rfl (lbt rfl) ?_
 simp only [BS,LB,iP,cd,iI,Nat.reduceLT,Nat.reduceEqDiff,Xa,FK,z,B,C]
 refine an (mul_ok S.ok y) ?_;intro h g;replace S:=S.call g;clear g
 simp only [BS,LB,iP,cd,iI,Nat.reduceLT,Nat.reduceEqDiff,Int.reduceLT,FK,A,D]
 refine ah (po (by exact Tryz.t24.1) (by exact Tryz.e2E) (by omega) (by omega)) S ?_;clear S;intro h j S d
 rw [XI,pF]at S
 simp only [BS,LB,Nat.reduceLT,Nat.reduceEqDiff,XI]
 refine gf (S.copyO (i:=0) (l:=zN 1 (.int .i64 x)) rfl Tryz.t24.1 Tryz.t2.2.2.1 (by rw [ja a];decide) (by rw [ja a];exact S.old F (fun h=>h)) (by simp;omega) rfl) ?_
 clear S;rintro h w ⟨rfl,S⟩
 simp only [LC]at S
 rw [show zN N (Value.int .i64 0)=zN 0 (.int .i64 x)++zN N (.int .i64 0) by simp,rz a]at S
 rw [ja a]
 simp only [BS,LB,Nat.reduceLT,Nat.reduceEqDiff,Xa]
 refine cm (fun(n:Nat) m h=>1<=n/\n<=N/\St NoM h0 h [(j,.row (zN n (.int .i64 x)++zN (N-n) (.int .i64 0)) 1)] []/\m 7=.slice (some ⟨j,0,none⟩) N N/\m 8=.int .i64 n) (fun n=>N-n) ?_ 1 _ _ ?_
 . clear S
   intro n I m h ⟨hn1,hn,S,r7,r8⟩
   by_cases hlt:n<N
   . simp only [BS,LB,Nat.reduceLT,Nat.reduceEqDiff,FK,r7,r8,aW,hlt]
     refine aE (aJ rfl) (q:=0) (ps:=[]) (by kernel_rfl) ?_
     simp only [BS,LB,cls,Nat.reduceLT,Nat.reduceEqDiff,Nat.reduceAdd,Nat.reducePow,Nat.reduceDiv,Nat.reduceMod,Nat.reduceLeDiff,XN,X8,r7,r8,xL Tryz.t24.1 Tryz.t2.2.2.1 hlt,vj Tryz.t24.1 Tryz.t2.2.2.1 (Yq hlt)]
     have p:0<dJ n (N-n):=by
      rcases X6 n (N-n)with h|h
      . rw [ja h];omega
      . rw [rB h];omega
     have f:dJ n (N-n)<=N-n/\dJ n (N-n)<=n:=by
      rcases X6 n (N-n)with h|h
      . rw [ja h];omega
      . rw [rB h];omega
     refine jE (S.copyO (i:=0) (l:=zN (dJ n (N-n)) (.int .i64 x)) rfl Tryz.t24.1 Tryz.t2.2.2.1 p ?_ (by simp;omega) (by simp;right;rfl)) ?_
     . rw [(S.row m0).load (by simp;omega),Xz,Yd]
       congr 1
       rw [XO (by simp;omega),Yk]
       congr 1
       omega
     clear S;rintro h w ⟨rfl,S⟩
     simp only [LC]at S
     rw [rz f.1]at S
     generalize dJ n (N-n)=k at S p f
     have w:aq .i64 ((n:Int)+(k:Int))=((n+k:Nat):Int):=by rw [wrap64]<;>omega
     simp only [BS,LB,cls,Nat.reduceLT,Nat.reduceEqDiff,Nat.reduceAdd,Nat.reducePow,Nat.reduceDiv,Nat.reduceMod,Nat.reduceLeDiff,w]
     exact I (n+k) _ _ (by omega) ⟨by omega,by omega,by rw [show N-(n+k)=N-n-k by omega];exact S,by simp [aa,r7],by simp [aa]⟩
   . simp only [BS,LB,ac,Nat.reduceLT,Nat.reduceEqDiff,FK,r7,r8,aW,hlt]
     have e:n=N:=by omega
     subst e
     have R:=S.row (b:=j) m0
     rw [Yo,Yl,XE]at R
     exact⟨S.gr,j,rfl,d,R⟩
 . exact⟨XJ _,a,by simpa using S,by simp [aa],by simp [aa]⟩
theorem repI_ok{h0:Hp}(t:h0.t.Sized h0.n){v:Value}{x:Int}{N:Nat}(u:az h0 1 (encI .i64) v [x])(a:1<=N)(y:N<1000):Ret zM 211 [v,.int .i64 N] h0 fun r h'=>Gr h0 h'/\ ∃b,r=.slice (some ⟨b,0,none⟩) N N/\h0.n<=b/\Row h' b (zN N (.int .i64 x)) 1:=by
 have S:=Si t
 have z: ¬((N:Int)<0):=by omega
 have A: ¬((9223372036854775807:Int)<(N:Int)):=by omega
 have B:aq .u64 (N:Int)=(N:Int):=ue (by omega) (by omega)
 have C:aq .u64 1=1:=rfl
 have D:aq .i64 (N:Int)=(N:Int):=by rw [wrap64]<;>omega
 obtain⟨J,K,L,M,rfl,E,F⟩: ∃b o s c,v=.slice (some ⟨b,o,s⟩) 1 c/\1<=c/\h0.load b o 1=some [.int .i64 x]:=by
  rcases u with⟨_,h⟩|⟨b,o,s,c,rfl,G,H⟩
  . cases h
  . exact⟨b,o,s,c,rfl,G,H⟩
 refine ae (n:=48) (rs:=[.tmp 4]) rfl Tryz.e211 rfl rfl rfl (lbt rfl) ?_
 simp only [BS,LB,iP,cd,iI,Nat.reduceLT,Nat.reduceEqDiff,Xa,FL,z,B,C]
 refine an (mul_ok S.ok y) ?_;intro h g;replace S:=S.call g;clear g
 simp only [BS,LB,iP,cd,iI,Nat.reduceLT,Nat.reduceEqDiff,Int.reduceLT,FL,A,D]
 refine ah (po (by exact Tryz.t33.1) (by exact Yr) (by omega) (by omega)) S ?_;clear S;intro h j S d
 rw [XI,pF]at S
 simp only [BS,LB,Nat.reduceLT,Nat.reduceEqDiff,XI]
 refine gf (S.copyO (i:=0) (l:=zN 1 (.int .i64 x)) rfl Tryz.t33.1 Tryz.t3.2.2.1 (by rw [ja a];decide) (by rw [ja a];exact S.old F (fun h=>h)) (by simp;omega) rfl) ?_
 clear S;rintro h w ⟨rfl,S⟩
 simp only [LC]at S
 rw [show zN N (Value.int .i64 0)=zN 0 (.int .i64 x)++zN N (.int .i64 0) by simp,rz a]at S
 rw [ja a]
 simp only [BS,LB,Nat.reduceLT,Nat.reduceEqDiff,Xa]
 refine cm (fun(n:Nat) m h=>1<=n/\n<=N/\St NoM h0 h [(j,.row (zN n (.int .i64 x)++zN (N-n) (.int .i64 0)) 1)] []/\m 7=.slice (some ⟨j,0,none⟩) N N/\m 8=.int .i64 n) (fun n=>N-n) ?_ 1 _ _ ?_
 . clear S
   intro n I m h ⟨hn1,hn,S,r7,r8⟩
   by_cases hlt:n<N
   . simp only [BS,LB,Nat.reduceLT,Nat.reduceEqDiff,FL,r7,r8,aW,hlt]
     refine aE (aJ rfl) (q:=0) (ps:=[]) (by kernel_rfl) ?_
     simp only [BS,LB,cls,Nat.reduceLT,Nat.reduceEqDiff,Nat.reduceAdd,Nat.reducePow,Nat.reduceDiv,Nat.reduceMod,Nat.reduceLeDiff,XN,X8,r7,r8,xL Tryz.t33.1 Tryz.t3.2.2.1 hlt,vj Tryz.t33.1 Tryz.t3.2.2.1 (Yq hlt)]
     have p:0<dJ n (N-n):=by
      rcases X6 n (N-n)with h|h
      . rw [ja h];omega
      . rw [rB h];omega
     have f:dJ n (N-n)<=N-n/\dJ n (N-n)<=n:=by
      rcases X6 n (N-n)with h|h
      . rw [ja h];omega
      . rw [rB h];omega
     refine jE (S.copyO (i:=0) (l:=zN (dJ n (N-n)) (.int .i64 x)) rfl Tryz.t33.1 Tryz.t3.2.2.1 p ?_ (by simp;omega) (by simp;right;rfl)) ?_
     . rw [(S.row m0).load (by simp;omega),Xz,Yd]
       congr 1
       rw [XO (by simp;omega),Yk]
       congr 1
       omega
     clear S;rintro h w ⟨rfl,S⟩
     simp only [LC]at S
     rw [rz f.1]at S
     generalize dJ n (N-n)=k at S p f
     have w:aq .i64 ((n:Int)+(k:Int))=((n+k:Nat):Int):=by rw [wrap64]<;>omega
     simp only [BS,LB,cls,Nat.reduceLT,Nat.reduceEqDiff,Nat.reduceAdd,Nat.reducePow,Nat.reduceDiv,Nat.reduceMod,Nat.reduceLeDiff,w]
     exact I (n+k) _ _ (by omega) ⟨by omega,by omega,by rw [show N-(n+k)=N-n-k by omega];exact S,by simp [aa,r7],by simp [aa]⟩
   . simp only [BS,LB,ac,Nat.reduceLT,Nat.reduceEqDiff,FL,r7,r8,aW,hlt]
     have e:n=N:=by omega
     subst e
     have R:=S.row (b:=j) m0
     rw [Yo,Yl,XE]at R
     exact⟨S.gr,j,rfl,d,R⟩
 . exact⟨XJ _,a,by simpa using S,by simp [aa],by simp [aa]⟩
def Tryz.F11:=aj t1<|aj t2<|aj t3<|aj t4<|aj t24<|aj t29<|aj Z0<|aj t32<|aj t33<|aj Z2<|aj t189<|Z1
theorem zY{h0:Hp}(d:h0.t.Sized h0.n){p:Value}{a:Gra}{e:Nat}(c:bL h0 e p a):bI zM 149 [p] h0 (.int .i64 a.arcs.length):=by
 have S:=Si d
 obtain⟨b,h,i,j,k,l,rfl,r,f,_⟩:=c.ex
 have g:=r.load1 (o:=3) rfl
 refine ae (n:=11) (rs:=[.tmp 2]) rfl Tryz.e149 rfl rfl rfl (lbt rfl) ?_
 simp only [BS,LB,ac,Nat.reduceLT,Nat.reduceEqDiff,F11,g,f.A.lenq]
 exact S.gr
def uK(h:Hp)(p:Value)(m:List Int)(n:Int):Prop:=(p=.pointer none/\m=[]/\n=0)\/((∃k,lK h k p m)/\n=lmax m+1)
theorem uK.gr{h h':Hp}{p:Value}{m:List Int}{n:Int}(g:Gr h h')(c:uK h p m n):uK h' p m n:=c.imp (fun h=>h) (fun⟨⟨k,h⟩,e⟩=>⟨⟨k,h.gr g⟩,e⟩)
def BitsAt(h:Hp)(p:Value)(a w:Int)(c:Bool):Prop:=(p=.pointer none/\a=0/\w=0/\c=false)\/ ∃b x y,p=ptrTo b/\Row h b [.int .i64 a,.int .i64 w,x,y] 1/\c=true
theorem BitsAt.gr{h h':Hp}{p:Value}{a w:Int}{d:Bool}(g:Gr h h')(c:BitsAt h p a w d):BitsAt h' p a w d:=c.imp (fun h=>h) (fun⟨b,x,y,e,r,n⟩=>⟨b,x,y,e,r.gr g,n⟩)
end Go.Ab
end
section
namespace Go.Ab
def SlW(h:Hp)(kd:IntKind)(v:Value)(xs:List Int):Prop:=(v=.slice none 0 0/\xs=[])\/ ∃b o c,v=.slice (some ⟨b,o,none⟩) xs.length c/\xs.length<=c/\h.load b o (xs.length*1)=some (xs.flatMap (encI kd))
theorem SlW.sl{h:Hp}{kd:IntKind}{v:Value}{xs:List Int}(s:SlW h kd v xs):az h 1 (encI kd) v xs:=s.imp (fun h=>h) (fun⟨b,o,c,a,d,e⟩=>⟨b,o,none,c,a,d,e⟩)
theorem SlW.low{E:Env}{h:Hp}{kd kd':IntKind}{t e:TypeId}{v:Value}{xs:List Int}(g:E.und t=some (.slice e))(j:E.sz e=some 1)(s:SlW h kd v xs){n:Nat}(a:n<=xs.length):
 ∃v',dS E t v none (some (.int kd' (n:Int))) none=some v'/\az h 1 (encI kd) v' (xs.take n)/\ ∀c,ar v' c->ar v c:=by
 have f: ∀n:Nat,fG (n:Int)=some n:=fun n=>rfl
 rcases s with⟨rfl,rfl⟩|⟨b,o,c,rfl,k,q⟩
 . have:n=0:=by simpa using a
   subst this
   refine⟨.slice none 0 0,?_,.inl ⟨rfl,rfl⟩,fun c d=>d⟩
   simp only [dS,g,dZ,d6,f,j]
   rfl
 . refine⟨.slice (some ⟨b,o,none⟩) n c,?_,.inr ⟨b,o,none,c,?_,?_,?_⟩,fun c d=>d⟩
   . simp only [dS,g,dZ,d6,f,Xf (Xs a k),cond_true,j,Xk,cond_false,Yn,dH,XB,XX]
     by_cases d:c=0
     . subst d;rfl
     . rw [show XA c 0=false by cases c with|zero=>exact absurd rfl d|succ c=>rfl];rfl
   . rw [Xj,X9 a]
   . rw [Xj,X9 a];exact Xs a k
   . rw [Xj,X9 a]
     have:=nY q (i:=0) (m:=n*1) (by omega)
     rw [XX,Yd]at this
     rw [this]
     congr 1
     refine Xq fun i=>?_
     have p: ∀l:List Int,l.flatMap (encI kd)=l.map fun x=>.int kd x:=fun l=>by
      rw [Xm,XP,Xm];rfl
     rw [p,p,Xz,List.map_take]
end Go.Ab

end
section
namespace Go.Ab
open Go.Proofs
set_option maxRecDepth 10000
theorem az.blt{α:Type}{h:Hp}{k:Nat}{enc:α->List Value}{v:Value}{xs:List α}(e:h.t.Sized h.n)(s:az h k enc v xs){c:Nat}(a:ar v c):c<h.n:=by
 rcases s with⟨rfl,_⟩|⟨b,o,_,_,rfl,_,f⟩
 . exact a.elim
 . have:b=c:=a
   subst this
   cases d:h.get b with
   |none=>simp [Hp.load,d]at f
   |some x=>exact eZ e d
end Go.Ab
end
section
namespace Go.Ab
structure Ev2 where
 kind:Nat
 side:Bool
 id:Nat
 lab:Nat
structure Sd where
 K:Nat->Option Int
 L:Nat->Option Nat
 P:Nat->List Nat
 O:List Nat
structure Bi where
 sd:Bool->Sd
 ev:List Ev2
 dist:Nat
 meet:Nat
def fsB(i:Bool):Arc->Nat:=if i then Arc.t else Arc.s
def ftB(i:Bool):Arc->Nat:=if i then Arc.s else Arc.t
def qB(pi:Nat->Int)(i:Bool)(v:Nat):Int:=if i then-pi v else pi v
def OpB(pi:Nat->Int)(v:Nat):Prop:= -(FAR:Int)<pi v/\pi v<(FAR:Int)
instance (pi:Nat->Int)(v:Nat):Decidable (OpB pi v):=by unfold OpB;infer_instance
def cG(f:Bool->Sd)(i:Bool)(x:Sd):Bool->Sd:=fun j=>if j=i then x else f j
def leO(o:Option Nat)(lab:Nat):Bool:=match o with
 |some w=>decide (w<=lab)
 |none=>false
def mT(o:Option Nat)(σ:Bi)(v lab:Nat):Bi:=match o with
 |some m=>if lab+m<σ.dist then⟨σ.sd,σ.ev,lab+m,v⟩else σ
 |none=>σ
def dq(pi:Nat->Int)(x:Sd)(i:Bool)(v lab:Nat)(p:List Nat):Sd:=⟨ct x.K v (some (2*lab+qB pi i v)),fun u=>if u=v then some lab else x.L u,updP x.P v p,x.O⟩
def bS(pi:Nat->Int)(i:Bool)(σ:Bi)(v lab:Nat)(p:List Nat):Bi:=
 if v∈(σ.sd i).O\/ ¬OpB pi v\/leO ((σ.sd i).L v) lab=true then σ else mT ((σ.sd (!i)).L v) ⟨cG σ.sd i (dq pi (σ.sd i) i v lab p),σ.ev,σ.dist,σ.meet⟩ v lab
def jU(σ:Bi)(i:Bool)(v:Nat):Nat:=((σ.sd i).L v).getD 0
def evB(σ:Bi)(e:Ev2):Bi:=⟨σ.sd,σ.ev++[e],σ.dist,σ.meet⟩
def bQ(σ:Bi)(i:Bool)(v:Nat):Bi:=⟨cG σ.sd i ⟨ct (σ.sd i).K v none,(σ.sd i).L,(σ.sd i).P,(σ.sd i).O++[v]⟩,σ.ev++[⟨0,i,v,jU σ i v⟩],σ.dist,σ.meet⟩
def c7(A:List Arc)(al:Nat->Bool)(pi:Nat->Int)(i:Bool)(v:Nat)(σ:Bi)(a:Nat):Bi:=
 if al a=true then bS pi i (evB σ ⟨1,i,a,0⟩) (ftB i (A.getD a default)) (jU σ i v+(A.getD a default).w) (a::(σ.sd i).P v)else σ
def iS(A:List Arc)(al:Nat->Bool)(pi:Nat->Int)(i:Bool)(v:Nat)(σ:Bi):Bi:=(outs A (fsB i) A.length v).foldl (c7 A al pi i v) σ
def fm:Sd:=⟨fun _=>none,fun _=>none,fun _=>[],[]⟩
def kC(pi:Nat->Int)(s t:Nat):Bi:=bS pi true (bS pi false ⟨fun _=>fm,[],FAR,0⟩ s 0 []) t 0 []
def StopB(σ:Bi):Prop:=(∃i,∀v,(σ.sd i).K v=none)\/ ∃v k u l,iH (σ.sd false).K v k/\iH (σ.sd true).K u l/\2*(σ.dist:Int)<=k+l
def TurnB(σ:Bi)(i:Bool):Prop:= ∃v k u l,iH (σ.sd false).K v k/\iH (σ.sd true).K u l/\k+l<2*(σ.dist:Int)/\i=decide (l<k)
inductive mM(A:List Arc)(al:Nat->Bool)(pi:Nat->Int):Bi->Bi->Prop where
 |stop {σ:Bi}:StopB σ->mM A al pi σ σ
 |step {σ τ:Bi} {i:Bool} {v:Nat} {k:Int}:TurnB σ i->iH (σ.sd i).K v k->mM A al pi (iS A al pi i v (bQ σ i v)) τ->mM A al pi σ τ
theorem dp{f:Bool->Sd}{i:Bool}{x:Sd}:cG f i x i=x:=if_pos rfl
theorem j8{f:Bool->Sd}{i:Bool}{x:Sd}:cG f i x (!i)=f (!i):=if_neg (by cases i<;>decide)
theorem uA{f:Bool->Sd}{i j:Bool}{x:Sd}(h:j≠i):cG f i x j=f j:=if_neg h
theorem lJ{o:Option Nat}{σ:Bi}{v lab:Nat}:(mT o σ v lab).sd=σ.sd/\(mT o σ v lab).ev=σ.ev:=by
 unfold mT
 split
 . split<;>exact⟨rfl,rfl⟩
 . exact⟨rfl,rfl⟩
section
variable{A:List Arc}{N:Nat}{al:Nat->Bool}{pi:Nat->Int}{σ:Bi}{rt:Bool->Nat}
structure SvB(A:List Arc)(N r:Nat)(al:Nat->Bool)(pi:Nat->Int)(i:Bool)(x:Sd):Prop where
 nd:x.O.Nodup
 lt: ∀v∈x.O,v<N/\x.L v≠none
 op: ∀v k,x.K v=some k->v∉x.O/\ ∃l,x.L v=some l/\k=2*(l:Int)+qB pi i v
 lab: ∀v l,x.L v=some l->v<N/\OpB pi v/\l<=x.O.length*bT/\(x.P v).length<=x.O.length/\(v∈x.O\/x.K v≠none)
 path: ∀v l,x.L v=some l->(v=r/\x.P v=[]/\l=0)\/ ∃a m,a<A.length/\al a=true/\ftB i (A.getD a default)=v/\fsB i (A.getD a default)∈x.O/\x.P v=a::x.P (fsB i (A.getD a default))/\x.L (fsB i (A.getD a default))=some m/\l=m+(A.getD a default).w
structure BiI(A:List Arc)(N:Nat)(rt:Bool->Nat)(al:Nat->Bool)(pi:Nat->Int)(σ:Bi):Prop where
 sv: ∀i,SvB A N (rt i) al pi i (σ.sd i)
 dm:(σ.dist=FAR/\ ∀i v x,(σ.sd i).L v=some x->(σ.sd (!i)).L v=none)\/(∀i,∃x y,(σ.sd i).L σ.meet=some x/\(σ.sd (!i)).L σ.meet=some y/\σ.dist=x+y)
 le: ∀i v x y,(σ.sd i).L v=some x->(σ.sd (!i)).L v=some y->σ.dist<=x+y
theorem SvB.len{r:Nat}{i:Bool}{x:Sd}(h:SvB A N r al pi i x):x.O.length<=N:=oa N x.O h.nd (fun v a=>(h.lt v a).1)
theorem pN{i j:Bool}(h:j≠i):j= !i:=by cases i<;>cases j<;>first|rfl|exact absurd rfl h
theorem not_ne{i:Bool}:(!i)≠i:=by cases i<;>decide
theorem SvB.put{r v lab:Nat}{b:Bool}{x:Sd}{p:List Nat}(h:SvB A N r al pi b x)(D:v∉x.O)(q:OpB pi v)(H:v<N)(b1:lab<=x.O.length*bT)(b2:p.length<=x.O.length)
 (g:(v=r/\p=[]/\lab=0)\/ ∃a m,a<A.length/\al a=true/\ftB b (A.getD a default)=v/\fsB b (A.getD a default)∈x.O/\p=a::x.P (fsB b (A.getD a default))/\x.L (fsB b (A.getD a default))=some m/\lab=m+(A.getD a default).w):
 SvB A N r al pi b (dq pi x b v lab p):=by
 have i: ∀{u},u∈x.O->u≠v:=fun j e=>D (e▸j)
 have f: ∀{u},u≠v->(dq pi x b v lab p).L u=x.L u:=fun h=>if_neg h
 have E: ∀{u},u≠v->(dq pi x b v lab p).K u=x.K u:=fun h=>if_neg h
 have n: ∀{u},u≠v->(dq pi x b v lab p).P u=x.P u:=fun h=>if_neg h
 have s:(dq pi x b v lab p).L v=some lab:=if_pos rfl
 have F:(dq pi x b v lab p).K v=some (2*(lab:Int)+qB pi b v):=if_pos rfl
 have G:(dq pi x b v lab p).P v=p:=if_pos rfl
 refine⟨h.nd,fun u j=>⟨(h.lt u j).1,by rw [f (i j)];exact(h.lt u j).2⟩,fun u k o=>?_,fun u l c=>?_,fun u l c=>?_⟩
 . by_cases e:u=v
   . subst e;rw [F]at o;cases o;exact⟨D,lab,s,rfl⟩
   . rw [E e]at o;rw [f e];exact h.op u k o
 . by_cases e:u=v
   . subst e;rw [s]at c;cases c
     exact⟨H,q,b1,by rw [G];exact b2,.inr (by rw [F];nofun)⟩
   . rw [f e]at c;rw [E e,n e];exact h.lab u l c
 . by_cases e:u=v
   . subst e;rw [s]at c;cases c
     rw [G]
     rcases g with g|⟨a,m,t,w,y,d,z,B,C⟩
     . exact .inl g
     . exact .inr ⟨a,m,t,w,y,d,by rw [n (i d)];exact z,by rw [f (i d)];exact B,C⟩
   . rw [f e]at c;rw [n e]
     rcases h.path u l c with g|⟨a,m,t,w,y,d,z,B,C⟩
     . exact .inl g
     . exact .inr ⟨a,m,t,w,y,d,by rw [n (i d)];exact z,by rw [f (i d)];exact B,C⟩
theorem BiI.reach {b:Bool} {v lab:Nat} {p:List Nat} (s:N<=12) (h:BiI A N rt al pi σ) (M:v<N) (b1:lab<=(σ.sd b).O.length*bT) (b2:p.length<=(σ.sd b).O.length)
 (O:(v=rt b/\p=[]/\lab=0)\/ ∃a m,a<A.length/\al a=true/\ftB b (A.getD a default)=v/\fsB b (A.getD a default)∈(σ.sd b).O/\p=a::(σ.sd b).P (fsB b (A.getD a default))/\(σ.sd b).L (fsB b (A.getD a default))=some m/\lab=m+(A.getD a default).w):
 BiI A N rt al pi (bS pi b σ v lab p):=by
 unfold bS
 split
 . exact h
 . rename_i I
   simp only [not_or,Decidable.not_not]at I
   obtain⟨Q,G,hle⟩:=I
   have w: ∀i,SvB A N (rt i) al pi i (cG σ.sd b (dq pi (σ.sd b) b v lab p) i):=fun i=>by
    by_cases e:i=b
    . subst e;rw [dp];exact(h.sv i).put Q G M b1 b2 O
    . rw [uA e];exact h.sv i
   have k: ∀u,(cG σ.sd b (dq pi (σ.sd b) b v lab p) (!b)).L u=(σ.sd (!b)).L u:=fun u=>by rw [j8]
   have F:(cG σ.sd b (dq pi (σ.sd b) b v lab p) b).L v=some lab:=by rw [dp];exact if_pos rfl
   have r: ∀{u},u≠v->(cG σ.sd b (dq pi (σ.sd b) b v lab p) b).L u=(σ.sd b).L u:=fun {u} e=>by rw [dp];exact if_neg e
   -- the smaller facts, for side b and its opposite
   have R:=h.sv b
   have S:=jm
   have W:=j9
   have z: ∀{i u l},(σ.sd i).L u=some l->l<=12*bT:=fun {i u l} T=>by
    have o:=((h.sv i).lab u l T).2.2.1
    have g:=Yh bT (Xs (h.sv i).len s)
    omega
   have J:lab<=12*bT:=by
    have g:=Yh bT (Xs R.len s)
    omega
   have j: ∀{P:Bool->Prop},P b->P (!b)-> ∀i,P i:=fun {P} U V i=>by
    by_cases e:i=b
    . subst e;exact U
    . rw [pN e];exact V
   have n:(!(!b))=b:=by cases b<;>rfl
   cases q:(σ.sd (!b)).L v with
   | none =>
     unfold mT
     simp only []
     refine⟨w,?_,?_⟩
     . rcases h.dm with⟨K,H⟩|d
       . refine .inl ⟨K,j (P:=fun i=> ∀u x,(cG σ.sd b (dq pi (σ.sd b) b v lab p) i).L u=some x->(cG σ.sd b (dq pi (σ.sd b) b v lab p) (!i)).L u=none) (fun u x c=>?_) (fun u x c=>?_)⟩
         . rw [k]
           by_cases e:u=v
           . subst e;exact q
           . rw [r e]at c;exact H b u x c
         . rw [k]at c
           rw [n]
           by_cases e:u=v
           . subst e;rw [q]at c;cases c
           . rw [r e];have:=H (!b) u x c;rwa [n]at this
       . have B:σ.meet≠v:=fun e=>by
          obtain⟨x,y,_,g,_⟩:=d b
          rw [e,q]at g;cases g
         refine .inr (j (P:=fun i=> ∃x y,(cG σ.sd b (dq pi (σ.sd b) b v lab p) i).L σ.meet=some x/\(cG σ.sd b (dq pi (σ.sd b) b v lab p) (!i)).L σ.meet=some y/\σ.dist=x+y) ?_ ?_)
         . obtain⟨x,y,o,g,t⟩:=d b
           exact⟨x,y,by rw [r B];exact o,by rw [k];exact g,t⟩
         . obtain⟨x,y,o,g,t⟩:=d (!b)
           rw [n]at g
           exact⟨x,y,by rw [k];exact o,by rw [n,r B];exact g,t⟩
     . refine j (P:=fun i=> ∀u x y,(cG σ.sd b (dq pi (σ.sd b) b v lab p) i).L u=some x->(cG σ.sd b (dq pi (σ.sd b) b v lab p) (!i)).L u=some y->σ.dist<=x+y) (fun u x y c f=>?_) (fun u x y c f=>?_)
       . rw [k]at f
         by_cases e:u=v
         . subst e;rw [q]at f;cases f
         . rw [r e]at c;exact h.le b u x y c f
       . rw [k]at c
         rw [n]at f
         by_cases e:u=v
         . subst e;rw [q]at c;cases c
         . rw [r e]at f;exact h.le (!b) u x y c (by rw [n];exact f)
   | some m =>
     have X:=z q
     have L: ∀{i:Bool} {u x y:Nat},(cG σ.sd b (dq pi (σ.sd b) b v lab p) i).L u=some x->(cG σ.sd b (dq pi (σ.sd b) b v lab p) (!i)).L u=some y->(u=v/\x+y=lab+m)\/(u≠v/\σ.dist<=x+y):=fun {i u x y} c f=>by
      by_cases e:u=v
      . subst e
        refine .inl ⟨rfl,?_⟩
        by_cases C:i=b
        . subst C;rw [F]at c;rw [k,q]at f;cases c;cases f;rfl
        . rw [pN C]at c f
          rw [k,q]at c;rw [n,F]at f;cases c;cases f;exact Nat.add_comm _ _
      . refine .inr ⟨e,?_⟩
        by_cases C:i=b
        . subst C;rw [r e]at c;rw [k]at f;exact h.le i u x y c f
        . rw [pN C]at c f
          rw [k]at c;rw [n,r e]at f
          exact h.le (!b) u x y c (by rw [n];exact f)
     unfold mT
     simp only []
     split
     . rename_i hlt
       refine⟨w,.inr (j (P:=fun i=> ∃x y,(cG σ.sd b (dq pi (σ.sd b) b v lab p) i).L v=some x/\(cG σ.sd b (dq pi (σ.sd b) b v lab p) (!i)).L v=some y/\lab+m=x+y) ⟨lab,m,F,by rw [k];exact q,rfl⟩ ⟨m,lab,by rw [k];exact q,by rw [n];exact F,Nat.add_comm _ _⟩),fun i u x y c f=>?_⟩
       have hlt:lab+m<σ.dist:=hlt
       show lab+m<=x+y
       rcases L c f with⟨_,h⟩|⟨_,h⟩<;>omega
     . rename_i D
       have D: ¬lab+m<σ.dist:=D
       have E: ∀x,(σ.sd b).L v=some x->lab<x:=fun x c=>by
        rw [c]at hle
        simp only [leO,decide_eq_true_eq]at hle
        omega
       refine⟨w,?_,fun i u x y c f=>?_⟩
       . rcases h.dm with⟨K,H⟩|d
         . omega
         . have B:σ.meet≠v:=fun e=>by
            obtain⟨x,y,o,g,t⟩:=d b
            rw [e]at o g
            rw [q]at g;cases g
            have:=E x o
            omega
           refine .inr (j (P:=fun i=> ∃x y,(cG σ.sd b (dq pi (σ.sd b) b v lab p) i).L σ.meet=some x/\(cG σ.sd b (dq pi (σ.sd b) b v lab p) (!i)).L σ.meet=some y/\σ.dist=x+y) ?_ ?_)
           . obtain⟨x,y,o,g,t⟩:=d b
             exact⟨x,y,by rw [r B];exact o,by rw [k];exact g,t⟩
           . obtain⟨x,y,o,g,t⟩:=d (!b)
             rw [n]at g
             exact⟨x,y,by rw [k];exact o,by rw [n,r B];exact g,t⟩
       . show σ.dist<=x+y
         rcases L c f with⟨_,h⟩|⟨_,h⟩<;>omega
end
end Go.Ab

end
section
namespace Go.Ab
open Go.Proofs
set_option maxRecDepth 10000
def Tryz.F12:=aj t1<|aj t2<|aj t3<|aj t4<|aj t218<|aj t275<|aj t337<|aj Z6<|aj Z7<|Z10
def Tryz.FV:=aj t1<|aj t2<|aj t3<|aj t4<|aj t24<|aj t32<|aj t33<|aj t48<|aj t74<|aj Z8<|aj Z9<|aj Z1<|aj t199<|aj t200<|aj t201<|Z12
def Tryz.F13:=aj t1<|aj t3<|aj t4<|aj Z0<|aj t32<|aj t189<|Z1
def Tryz.FM:=aj t1<|aj t2<|aj t3<|aj t4<|aj t24<|aj Z0<|aj t32<|aj t74<|aj t95<|aj Z9<|aj t189<|aj Z1<|t196
theorem qQ{h0:Hp}(s:h0.t.Sized h0.n){F:List Nat}{p:Value}{N:Nat}{K:Nat->Option Int}(H:bC h0 F p N K):
 ∃(k:Int) (b:Bool),bI zM 201 [p] h0 (.tuple #[.int .i64 k,.bool b])/\((b=false/\ ∀v,K v=none)\/(b=true/\ ∃v,iH K v k)):=by
 obtain⟨m,q,t⟩:=pK s H
 obtain⟨P,Q,l,rfl,A,r,hlt,B⟩:=H.ex
 by_cases d:m=0
 . refine⟨0,false,?_,.inl ⟨rfl,t.1 d⟩⟩
   subst d
   have S:=Si s
   refine ae (n:=15) (rs:=[.tmp 2,.tmp 3]) rfl Tryz.e201 rfl rfl rfl (lbt rfl) ?_
   simp only [BS,LB,Nat.reduceLT,Nat.reduceEqDiff]
   refine an (q) ?_;intro h g;replace S:=S.call g;clear g
   simp only [BS,LB,ac,Nat.reduceLT,Nat.reduceEqDiff,Xa]
   exact S.gr
 . have w: ¬((m:Int)=0):=by omega
   rcases B with⟨rfl,_⟩|⟨D,E,rfl,R⟩
   . exact absurd (t.2 r.nil) d
   . have a:0<l.length:=by
      cases l with
      |nil=>exact absurd (t.2 r.nil) d
      |cons x l=>simp
     refine⟨(l.getD 0 default).key,true,?_,.inr ⟨rfl,(l.getD 0 default).id,r.at a,fun u T G=>?_⟩⟩
     . have S:=Si s
       refine ae (n:=15) (rs:=[.tmp 2,.tmp 3]) rfl Tryz.e201 rfl rfl rfl (lbt rfl) ?_
       simp only [BS,LB,Nat.reduceLT,Nat.reduceEqDiff]
       refine an (q) ?_;intro h g;replace S:=S.call g;replace R:=R.gr g;clear g
       obtain⟨U,V,c,f,y,I,C,W,X⟩:=R.ex
       have J:=R.row.load1 (o:=0) rfl
       have L:=C.ld2 y a
       have z:h.load D (0*2+1) 1=some [.int .i64 (l.getD 0 default).key]:=nY L (i:=1) (m:=1) (by omega)
       have M:ff (.int .i64 0) l.length=some 0:=hZ (i:=0) a
       simp only [BS,LB,ac,Nat.reduceLT,Nat.reduceEqDiff,F12,w,J,M,z]
       exact S.gr
     . obtain⟨j,O,e⟩:=r.idx G
       have:=yd A j O
       rw [e]at this
       unfold Ab.hle at this
       simp only []at this
       omega
theorem bpi_ok{h0:Hp}(l:h0.t.Sized h0.n){br v:Nat}{vPi:Value}{a:List Int}(f:h0.load br 4 1=some [vPi])(d:az h0 1 (encI .i64) vPi a)(j:v<a.length):
 bI zM 198 [ptrTo br,.int .i64 (v:Nat)] h0 (.tuple #[.int .i64 (a.getD v 0),.bool (decide (-(FAR:Int)<a.getD v 0/\a.getD v 0<FAR))]):=by
 have S:=Si l
 have m:=jm
 have g: ¬((a.length:Int)=0):=by omega
 obtain⟨c,o,h,b⟩:=d.ix (kd:=.i64) (eR .i64) j
 have e:a.getD v 0=a[v]:=by rw [Xb,Xo j,XZ]
 rw [e]
 generalize a[v]=p at b
 replace b:h0.load c o 1=some [.int .i64 p]:=b
 refine ae (n:=29) (rs:=[.tmp 4,.tmp 5]) rfl Tryz.e198 rfl rfl rfl (lbt rfl) ?_
 by_cases i:(-72057594037927936:Int)<p
 . by_cases k:p<72057594037927936
   . simp only [BS,LB,ac,Nat.reduceLT,Nat.reduceEqDiff,Nat.reduceAdd,FV,f,d.lenq,g,h,b,i,k]
     refine⟨?_,S.gr⟩
     rw [decide_eq_true (by omega)]
   . simp only [BS,LB,ac,Nat.reduceLT,Nat.reduceEqDiff,Nat.reduceAdd,FV,f,d.lenq,g,h,b,i,k]
     refine⟨?_,S.gr⟩
     rw [decide_eq_false (by omega)]
 . simp only [BS,LB,ac,Nat.reduceLT,Nat.reduceEqDiff,Nat.reduceAdd,FV,f,d.lenq,g,h,b,i]
   refine⟨?_,S.gr⟩
   rw [decide_eq_false (by omega)]
theorem pair_nl{x:Option Tch}:iW none x=true:=by cases x<;>rfl
theorem pair_nr{x:Option Tch}:iW x none=true:=by
 cases x with
 |none=>rfl
 |some x=>cases x<;>rfl
theorem vp{h0:Hp}(b:h0.t.Sized h0.n){a:Gra}{c b2 v:Nat}{p:Value}(d:bL h0 c p a)(e:h0.load b2 0 1=some [p])(f:v<a.nodes):bI zM 194 [.int .i64 (v:Nat),ptrTo b2] h0 (.bool true):=by
 have S:=Si b
 have g:(0:Int)<=(v:Int):=by omega
 refine ae (n:=12) (rs:=[.tmp 3]) rfl Tryz.e194 rfl rfl rfl (lbt rfl) ?_
 simp only [BS,LB,Nat.reduceLT,Nat.reduceEqDiff,F13,e,g]
 refine an (cU S.ok d) ?_
 intro i h;replace S:=S.call h
 simp only [BS,LB,ac,Nat.reduceLT,Nat.reduceEqDiff,aW,f]
 exact S.gr
theorem u3{h0:Hp}(d:h0.t.Sized h0.n){a b:Nat}(h:a=0\/a=b):bI zM 195 [.int .i64 (a:Nat),.int .i64 (b:Nat)] h0 (.bool true):=by
 have S:=Si d
 refine ae (n:=12) (rs:=[.tmp 4]) rfl Tryz.e195 rfl rfl rfl (lbt rfl) ?_
 by_cases c:a=0
 . subst c
   simp only [BS,LB,ac,Nat.reduceLT,Nat.reduceEqDiff,Xa]
   exact S.gr
 . have e:a=b:=h.resolve_left c
   subst e
   have f: ¬(a:Int)=0:=by omega
   simp only [BS,LB,ac,Nat.reduceLT,Nat.reduceEqDiff,f]
   exact S.gr
theorem right_ok{h0:Hp}(y:h0.t.Sized h0.n){j:Gra}{X z s to:Nat}{vPi:Value}{d:List Int}(t:bL h0 X (ptrTo z) j)(Y:s<j.nodes)(Z:to<j.nodes)(u:az h0 1 (encI .i64) vPi d)(A:d.length=j.nodes):
 bI zM 113 [ptrTo z,.agg ⟨[.int .i64 (s:Nat),.int .i64 (to:Nat),.slice none 0 0,vPi]⟩] h0 (.bool true):=by
 have S:=Si y
 have fP:=u.fl
 obtain⟨i,oi,si,ci,rfl⟩: ∃b o s c,vPi=.slice (some ⟨b,o,s⟩) d.length c:=by
  rcases u with⟨_,rfl⟩|⟨b,o,s,c,e,_⟩
  . simp at A;omega
  . exact⟨b,o,s,c,e⟩
 have ti:i<h0.n:=u.blt y rfl
 refine ae (n:=36) (rs:=[.tmp 4]) rfl Tryz.e113 rfl rfl rfl (lbt rfl) ?_
 simp only [BS,Nat.reduceLT]
 refine ah (cP (by exact dC)) S ?_;clear S;intro h f S B
 simp only [BS,Nat.reduceLT,Nat.reduceEqDiff,if_false]
 refine ah (a8 (by intro x e;cases e)) S ?_;clear S;intro h g S C;simp only [ag]at S
 simp only [BS,LB,Nat.reduceLT,Nat.reduceEqDiff]
 have t2:=(S.row (b:=f) m1).lt S.ok
 have t3:=(S.row (b:=g) m0).lt S.ok
 have k0:=S.gr.n
 refine aE (aJ rfl) (q:=0) (ps:=[(23,25),(22,25),(14,16),(13,16)]) (by kernel_rfl) ?_
 simp only [BS,LB,cls,Nat.reduceLT,Nat.reduceEqDiff,Nat.reduceAdd,Nat.reducePow,Nat.reduceDiv,Nat.reduceMod,Nat.reduceLeDiff,FM,S.ld (b:=g) (o:=0) m0 rfl]
 refine cD (vp S.ok (t.gr S.gr) (S.ld (b:=f) (o:=0) m1 rfl) Y) ?_
 intro h1 k
 have D:=ao k t2
 have e3:=ao k t3
 have E:=ao k (show i<_ by omega)
 have F:=k.n
 replace S:=S.call k;clear k
 simp only [BS,LB,cls,Nat.reduceLT,Nat.reduceEqDiff,Nat.reduceAdd,Nat.reducePow,Nat.reduceDiv,Nat.reduceMod,Nat.reduceLeDiff,FM,S.ld (b:=g) (o:=1) m0 rfl]
 refine cD (vp S.ok (t.gr S.gr) (S.ld (b:=f) (o:=0) m1 rfl) Z) ?_
 intro G l
 have H:=ao l (XF t2 F)
 have I:=ao l (XF t3 F)
 have J:=ao l (show i<_ by omega)
 have k2:=l.n
 replace S:=S.call l;clear l
 simp only [BS,LB,cls,Nat.reduceLT,Nat.reduceEqDiff,Nat.reduceAdd,Nat.reducePow,Nat.reduceDiv,Nat.reduceMod,Nat.reduceLeDiff,Xa,FM,S.ld (b:=g) (o:=2) m0 rfl,S.ld (b:=f) (o:=0) m1 rfl]
 refine cD (zY S.ok (t.gr S.gr)) ?_
 intro K m
 have L:=ao m (show f<G.n by omega)
 have M:=ao m (show g<G.n by omega)
 have N:=ao m (show i<_ by omega)
 have k3:=m.n
 replace S:=S.call m;clear m
 simp only [BS,LB,cls,Nat.reduceLT,Nat.reduceEqDiff,Nat.reduceAdd,Nat.reducePow,Nat.reduceDiv,Nat.reduceMod,Nat.reduceLeDiff]
 refine cD (u3 (a:=0) (b:=j.arcs.length) S.ok (.inl rfl)) ?_
 intro O p
 have e8:=ao p (show f<K.n by omega)
 have e9:=ao p (show g<K.n by omega)
 have P:=ao p (show i<_ by omega)
 have k4:=p.n
 replace S:=S.call p;clear p
 simp only [BS,LB,cls,Nat.reduceLT,Nat.reduceEqDiff,Nat.reduceAdd,Nat.reducePow,Nat.reduceDiv,Nat.reduceMod,Nat.reduceLeDiff,FM,(u.gr S.gr).lenq,S.ld (b:=g) (o:=3) m0 rfl,S.ld (b:=f) (o:=0) m1 rfl]
 refine cD (cU S.ok (t.gr S.gr)) ?_
 intro w r
 have Q:=ao r (show f<O.n by omega)
 have R:=ao r (show g<O.n by omega)
 have T:=ao r (show i<_ by omega)
 have k5:=r.n
 replace S:=S.call r;clear r
 simp only [BS,LB,cls,Nat.reduceLT,Nat.reduceEqDiff,Nat.reduceAdd,Nat.reducePow,Nat.reduceDiv,Nat.reduceMod,Nat.reduceLeDiff]
 refine cD (u3 (a:=d.length) (b:=j.nodes) S.ok (.inr A)) ?_
 intro h6 v
 have U:=ao v (show f<w.n by omega)
 have V:=ao v (show g<w.n by omega)
 have W:=ao v (show i<w.n by omega)
 replace S:=S.call v
 simp only [BS,LB,cls,ac,Nat.reduceLT,Nat.reduceEqDiff,Nat.reduceAdd,Nat.reducePow,Nat.reduceDiv,Nat.reduceMod,Nat.reduceLeDiff]
 refine⟨by simp only [bj,bA,aS,bK,aY,ne_eq,not_false_eq_true,bJ,cb,a9,aX,cu,cR,aO,Nat.reduceLT,Nat.reduceEqDiff,reduceIte,Yi,ab,xJ,vw,mW,pair_nl,pair_nr,au D,av D,au e3,av e3,au H,av H,au I,av I,au L,av L,au M,av M,au e8,av e8,au e9,av e9,au Q,av Q,au R,av R,au U,av U,au V,av V,au E,av E,au J,av J,au N,av N,au P,av P,au T,av T,au W,av W],?_⟩
 exact S.gr
end Go.Ab
end

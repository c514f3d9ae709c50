/- Nets, cells, flags: what the functions do (part 3). -/
import Derived.Test.YtdicllcgofpggaaGreatDoorNetB
open Go.Ab.Tryz
open Go.Ab.Tryz renaming abEnv->zB,e328E->Yc,e3E->Yr
open List renaming replicate->zM,mem_of_getElem?->Xa,length_set->Xf,take_succ_eq_append_getElem->Xg,getElem?_replicate->Xh,length_take->Xi,getElem?_append_right->Xk,map_cons->Xm,nodup_append->Xn,ext_getElem?->Xo,range->Xq,length_append->Xt,take->Xu,drop->Xv,take_of_length_le->Xw,flatMap_eq_foldl->Xy,nodup_cons->XC,append_nil->XD,mem_cons->XE,length_replicate->XG,take_append_of_le_length->XI,filterMap_nil->XL,getD_eq_getElem?_getD->XQ,getElem?_map->XR,length_range->XS,getElem?_append_left->XT,cons_append->XW,getElem?_eq_getElem->XX,getElem_mem->XY,length_singleton->X6,drop_zero->X9,getElem?_append->Ye,getElem?_range->Yf,take_succ_cons->Yg,map_eq_flatMap->Yh,take_replicate->Yi,replicate_zero->Yj,map_set->Yk,map_nil->Yp
open Int renaming cast_ofNat_Int->zO,toNat_natCast->Xe,tdiv_eq_ediv_of_nonneg->XB,ofNat_eq_natCast->Yb,ofNat->Ym
open Nat renaming ble_eq_true_of_le->Xb,le_trans->Xc,le_refl->Xj,lt_of_succ_le->Xp,mul_one->Xr,zero_add->Xs,zero_mul->Xx,beq->XF,ble->XJ,one_mul->XK,lt_of_lt_of_le->XM,xor_lt_two_pow->XN,lt_of_le_of_lt->XO,blt_eq->XU,blt->XV,le_of_lt->XZ,le_total->X2,min_eq_left->X4,and_le_left->X5,eq_of_beq_eq_true->X7,mul_le_mul->X8,mul_le_mul_right->Ya,land->Yd,beq_refl->Yl,sub_zero->Yn,sub_self->Yo,add_zero->Yq
open Option renaming isSome_none->Xd,getD_none->Xz,getD_some->XA,map_some->XH,map_none->X3
open Prod renaming fst->Xl
open Bool renaming and_true->XP
set_option maxHeartbeats 4000000
set_option linter.defProp false
set_option linter.unusedVariables false
set_option linter.unusedSimpArgs false
section
namespace Go.Ab
structure Hd where
 id:Nat
 key:Int
deriving Inhabited,DecidableEq
def hle(a b:Hd):Prop:=a.key<b.key\/(a.key=b.key/\a.id<=b.id)
def hlt(a b:Hd):Prop:=a.key<b.key\/(a.key=b.key/\a.id<b.id)
instance (a b:Hd):Decidable (hlt a b):=by unfold hlt;infer_instance
theorem xf{a b:Hd}(h: ¬hlt a b):hle b a:=by unfold hlt at h;unfold hle;omega
theorem sV{a b:Hd}(h:hlt a b):hle a b:=by unfold hlt at h;unfold hle;omega
theorem kf{a b c:Hd}(h:hle a b)(k:hle b c):hle a c:=by unfold hle at*;omega
theorem uL(a:Hd):hle a a:=by unfold hle;omega
def sw(l:List Hd)(i k:Nat):List Hd:=(l.set i (l.getD k default)).set k (l.getD i default)
theorem ik(l:List Hd)(i k:Nat):(sw l i k).length=l.length:=by simp [sw]
theorem qg(l:List Hd)(i j:Nat)(x:Hd):(l.set i x).getD j default=if i=j/\j<l.length then x else l.getD j default:=by
 grind
theorem iW(l:List Hd){i k:Nat}(a:i<l.length)(b:k<l.length)(j:Nat):(sw l i k).getD j default=if j=k then l.getD i default else if j=i then l.getD k default else l.getD j default:=by
 unfold sw
 grind
theorem tM(l:List Hd){i k:Nat}(a:i<l.length)(b:k<l.length):(sw l i k).Perm l:=by
 grind[set,List.set_set_perm,sw,default]
def mJ(l:List Hd):Prop:= ∀j,0<j->j<l.length->hle (l.getD ((j-1)/4) default) (l.getD j default)
def se(l:List Hd)(i:Nat):Prop:=(∀j,0<j->j<l.length->j≠i->hle (l.getD ((j-1)/4) default) (l.getD j default))/\ ∀j,0<j->j<l.length->(j-1)/4=i->0<i->hle (l.getD ((i-1)/4) default) (l.getD j default)
theorem up_done{l:List Hd}{i:Nat}(h:se l i)(c:i=0\/hle (l.getD ((i-1)/4) default) (l.getD i default)):mJ l:=by
 intro j a b
 by_cases e:j=i
 . grind
 . exact h.1 j a b e
theorem up_step{l:List Hd}{i:Nat}(e:i<l.length)(h:se l i)(o:0<i)(m:hlt (l.getD i default) (l.getD ((i-1)/4) default)):se (sw l i ((i-1)/4)) ((i-1)/4):=by
 have c:(i-1)/4<l.length:=by omega
 generalize f:(i-1)/4=p at*
 have t:p<i:=by omega
 refine⟨fun j d a n=>?_,fun j d a n q=>?_⟩
 . rw [ik]at a
   rw [iW l e c,iW l e c,if_neg n]
   by_cases b:j=i
   . subst b;rw [f,if_pos rfl,if_pos rfl];exact sV m
   . rw [if_neg b]
     by_cases g:(j-1)/4=p
     . rw [if_pos g]
       have:=h.1 j d a b
       rw [g]at this
       exact kf (sV m) this
     . rw [if_neg g]
       by_cases k:(j-1)/4=i
       . rw [if_pos k];have:=h.2 j d a k o;grind
       . rw [if_neg k];exact h.1 j d a b
 . rw [ik]at a
   have r: ¬(p-1)/4=p:=by omega
   have s: ¬(p-1)/4=i:=by omega
   rw [iW l e c,iW l e c,if_neg r,if_neg s,if_neg (show¬j=p by omega)]
   have u:=h.1 p q c (by omega)
   by_cases b:j=i
   . grind
   . rw [if_neg b]
     have:=h.1 j d a b
     grind[kf]
def tW(l:List Hd)(i:Nat):Prop:=(∀j,0<j->j<l.length->(j-1)/4≠i->hle (l.getD ((j-1)/4) default) (l.getD j default))/\ ∀j,0<j->j<l.length->(j-1)/4=i->0<i->hle (l.getD ((i-1)/4) default) (l.getD j default)
theorem dn_done{l:List Hd}{i:Nat}(h:tW l i)(c: ∀j,0<j->j<l.length->(j-1)/4=i->hle (l.getD i default) (l.getD j default)):mJ l:=by
 intro j a b
 by_cases e:(j-1)/4=i
 . grind
 . exact h.1 j a b e
theorem dn_step{l:List Hd}{i b:Nat}(h:tW l i)(o:0<b)(a:b<l.length)(m:(b-1)/4=i)(p:hlt (l.getD b default) (l.getD i default))(q: ∀j,0<j->j<l.length->(j-1)/4=i->hle (l.getD b default) (l.getD j default)):tW (sw l i b) b:=by
 have d:i<l.length:=by omega
 refine⟨fun j e c f=>?_,fun j e c f _=>?_⟩
 . rw [ik]at c
   rw [iW l d a,iW l d a,if_neg f]
   by_cases g:(j-1)/4=i
   . rw [if_pos g]
     by_cases k:j=b
     . rw [if_pos k];exact sV p
     grind
   . rw [if_neg g]
     by_cases k:j=b
     . omega
     . rw [if_neg k]
       by_cases n:j=i
       . subst n;rw [if_pos rfl];exact h.2 b o a m e
       . rw [if_neg n];exact h.1 j e c g
 . rw [ik]at c
   rw [iW l d a,iW l d a,m,if_neg (show¬i=b by omega),if_pos rfl,if_neg (show¬j=b by omega),if_neg (show¬j=i by omega)]
   have:=h.1 j e c (by omega)
   rwa [f]at this
theorem heap_min{l:List Hd}(h:mJ l): ∀j,j<l.length->hle (l.getD 0 default) (l.getD j default):=by
 intro j
 induction j using Nat.strongRecOn with
 | _ j a=>
   intro b
   by_cases e:j=0
   . subst e;exact uL _
   . exact kf (a ((j-1)/4) (by omega) (by omega)) (h j (by omega) b)
theorem oq(l m:List Hd){j:Nat}(a:j<l.length):(l++m).getD j default=l.getD j default:=by
 grind
theorem yZ{l:List Hd}(h:mJ l)(x:Hd):se (l++[x]) l.length:=by
 refine⟨fun j a b c=>?_,fun j a b c _=>?_⟩
 . simp at b
   rw [oq l _ (by omega),oq l _ (by omega)]
   exact h j a (by omega)
 grind
theorem CC{l:List Hd}(h:mJ l){i:Nat}{x:Hd}(k:hle x (l.getD i default)):se (l.set i x) i:=by
 refine⟨fun j b a c=>?_,fun j b a c f=>?_⟩
 . rw [Xf]at a
   rw [qg,qg,if_neg (show¬(i=j/\_)from fun e=>c e.1.symm)]
   split
   . rename_i e;have:=h j b a;grind[kf]
   . exact h j b a
 . rw [Xf]at a
   rw [qg,qg,if_neg (show¬(i=j/\_) by omega),if_neg (show¬(i=(i-1)/4/\_) by omega)]
   have g:=h i f (by omega)
   have d:=h j b a
   rw [c]at d
   exact kf g d
theorem getD_take(l:List Hd){n j:Nat}(a:j<n):(l.take n).getD j default=l.getD j default:=by
 grind
theorem heap_pop{l:List Hd}(h:mJ l)(d:0<l.length):tW ((sw l 0 (l.length-1)).take (l.length-1)) 0:=by
 refine⟨fun j a b c=>?_,fun j a b c e=>?_⟩
 . rw [Xi,ik]at b
   rw [getD_take _ (by omega),getD_take _ (by omega),iW l (by omega) (by omega),iW l (by omega) (by omega),if_neg (by omega),if_neg (by omega),if_neg (by omega),if_neg (by omega)]
   exact h j a (by omega)
 . omega
def iu(l:List Hd)(K:Nat->Option Int):Prop:=(l.map Hd.id).Nodup/\ ∀v k,K v=some k↔⟨v,k⟩∈l
def eQ(K:Nat->Option Int)(v:Nat)(x:Option Int):Nat->Option Int:=fun u=>if u=v then x else K u
theorem iu.perm{l m:List Hd}{K:Nat->Option Int}(h:iu l K)(p:m.Perm l):iu m K:=
 ⟨(p.map Hd.id).nodup_iff.2 h.1,fun v k=>by rw [h.2];grind⟩
theorem iu.free{l:List Hd}{K:Nat->Option Int}(h:iu l K){v:Nat}(c:K v=none):v∉l.map Hd.id:=by
 intro a
 obtain⟨x,b,rfl⟩:=List.mem_map.1 a
 have:=(h.2 x.id x.key).2 b
 grind
theorem iu.push{l:List Hd}{K:Nat->Option Int}(h:iu l K){v:Nat}(d:K v=none)(k:Int):iu (l++[⟨v,k⟩]) (eQ K v (some k)):=by
 refine⟨?_,fun u x=>?_⟩
 . rw [List.map_append,Xn]
   exact⟨h.1,by simp,fun a f b g e=>h.free d (by grind)⟩
 . unfold eQ
   by_cases e:u=v
   . subst e
     rw [if_pos rfl,List.mem_append]
     constructor
     . grind
     . rintro(c|c)
       . have:=(h.2 u x).2 c;grind
       grind
   . rw [if_neg e,List.mem_append,h.2]
     grind
theorem nodup_idx{l:List Hd}(h:(l.map Hd.id).Nodup){i j:Nat}(a:i<l.length)(b:j<l.length)(e:(l.getD i default).id=(l.getD j default).id):i=j:=by
 refine qw h (x:=(l.getD i default).id) (by simp [a]) ?_
 grind
theorem iu.lower{l:List Hd}{K:Nat->Option Int}(h:iu l K){i:Nat}(f:i<l.length)(k:Int):iu (l.set i ⟨(l.getD i default).id,k⟩) (eQ K (l.getD i default).id (some k)):=by
 have g:(l.set i ⟨(l.getD i default).id,k⟩).map Hd.id=l.map Hd.id:=by
  rw [Yk]
  refine Xo fun j=>?_
  grind
 refine⟨by rw [g];exact h.1,fun u x=>?_⟩
 unfold eQ
 by_cases e:u=(l.getD i default).id
 . rw [if_pos e]
   constructor
   . intro m;cases m;subst e;exact List.mem_iff_getElem?.2 ⟨i,by simp [f]⟩
   . intro b
     obtain⟨j,a⟩:=List.mem_iff_getElem?.1 b
     rw [List.getElem?_set]at a
     split at a
     . cases a;rfl
     . rename_i c
       have d:=(List.getElem?_eq_some_iff.1 a).1
       exact absurd (nodup_idx h.1 f d (by grind)) c
 . rw [if_neg e,h.2]
   constructor
   . intro b
     obtain⟨j,a⟩:=List.mem_iff_getElem?.1 b
     refine List.mem_iff_getElem?.2 ⟨j,?_⟩
     grind
   grind
theorem iu.pop{l:List Hd}{K:Nat->Option Int}(h:iu l K)(b:0<l.length):iu ((sw l 0 (l.length-1)).take (l.length-1)) (eQ K (l.getD 0 default).id none):=by
 have p:=tM l (i:=0) (k:=l.length-1) b (by omega)
 have c:=h.perm p
 have e:sw l 0 (l.length-1)=(sw l 0 (l.length-1)).take (l.length-1)++[l.getD 0 default]:=by
  refine Xo fun j=>?_
  have g:=iW l (i:=0) (k:=l.length-1) b (by omega) (l.length-1)
  rw [if_pos rfl]at g
  grind[ik,XT,List.getElem?_take_of_lt,Xk,List.getElem?_eq_none]
 generalize(sw l 0 (l.length-1)).take (l.length-1)=m at*
 generalize l.getD 0 default=x at*
 rw [e]at c
 obtain⟨a,o⟩:=c
 rw [List.map_append,Xn]at a
 refine⟨a.1,fun v k=>?_⟩
 unfold eQ
 by_cases d:v=x.id
 . rw [if_pos d]
   constructor
   . intro h;cases h
   . intro n
     exact absurd d (a.2.2 v (List.mem_map_of_mem (f:=Hd.id) n) x.id (by simp))
 grind
theorem iu.at{l:List Hd}{K:Nat->Option Int}(h:iu l K){i:Nat}(a:i<l.length):K (l.getD i default).id=some (l.getD i default).key:=
 (h.2 _ _).2 (List.mem_iff_getElem?.2 ⟨i,by simp [a]⟩)
theorem iu.idx{l:List Hd}{K:Nat->Option Int}(h:iu l K){v:Nat}{k:Int}(a:K v=some k): ∃i,i<l.length/\l.getD i default=⟨v,k⟩:=by
 obtain⟨i,b⟩:=List.mem_iff_getElem?.1 ((h.2 v k).1 a)
 grind
theorem iu.nil{K:Nat->Option Int}(h:iu [] K)(v:Nat):K v=none:=by
 cases a:K v with
 |none=>rfl
 |some k=>have:=(h.2 v k).1 a;cases this
theorem cont_nil:iu [] (fun _=>none):=⟨.nil,fun v k=>by grind⟩
end Go.Ab

end
section
namespace Go.Ab
def FAR:Nat:=72057594037927936
def WMAX:Nat:=2147483647
theorem FAR_eq:FAR=72057594037927936:=rfl
theorem WMAX_eq:WMAX=2147483647:=rfl
inductive Wk(B:List Arc)(s:Nat):Nat->Nat->Prop where
 |nil:Wk B s s 0
 |snoc {w:Nat} {a:Arc}:a∈B->Wk B s a.s w->Wk B s a.t (w+a.w)
def IsD(B:List Arc)(s v x:Nat):Prop:=(x<FAR/\Wk B s v x/\ ∀w,Wk B s v w->x<=w)\/(x=FAR/\ ∀w,¬Wk B s v w)
theorem IsD.uniq{B:List Arc}{s v x y:Nat}(h:IsD B s v x)(k:IsD B s v y):x=y:=by
 rcases h with⟨a,b,c⟩|⟨a,b⟩<;>rcases k with⟨d,e,f⟩|⟨d,e⟩
 . have:=c _ e;have:=f _ b;omega
 . exact absurd b (e _)
 . exact absurd e (b _)
 . omega
theorem IsD.le{B:List Arc}{s v x:Nat}(h:IsD B s v x):x<=FAR:=by
 rcases h with⟨a,_,_⟩|⟨a,_⟩<;>omega
theorem IsD.arc{B:List Arc}{s x y:Nat}{a:Arc}(c:a∈B)(f:IsD B s a.s x)(d:IsD B s a.t y):y<=x+a.w:=by
 rcases f with⟨g,b,j⟩|⟨g,b⟩
 . rcases d with⟨h,e,i⟩|⟨h,e⟩
   . exact i _ (.snoc c b)
   . exact absurd (.snoc c b) (e _)
 . have:=d.le;omega
theorem uM: ∀(N:Nat) (l:List Nat),l.Nodup->(∀x∈l,x<N)->l.length<=N
 | 0,l,_,h=>by
   cases l with
   |nil=>simp
   |cons x l=>have:=h x (by simp);omega
 | N+1,l,b,h=>by
   have f:=uM N (l.erase N) (b.erase N) (fun x c=>by
    have d:=h x (List.mem_of_mem_erase c)
    have g:x≠N:=fun e=>by subst e;exact(List.Nodup.not_mem_erase b) c
    omega)
   have d:=List.length_erase (a:=N) (l:=l)
   split at d<;>omega

section
variable{B:List Arc}{s N:Nat}{O:List Nat}{D:Nat->Nat}{K:Nat->Option Int}{ex:Arc->Prop}
structure Dj(B:List Arc)(s N:Nat)(O:List Nat)(D:Nat->Nat)(K:Nat->Option Int)(ex:Arc->Prop):Prop where
 i1: ∀v,v∈O->K v=none
 i2: ∀v∈O,Wk B s v (D v)/\(∀w,Wk B s v w->D v<=w)/\D v<=O.length*WMAX
 i2f: ∀v,v∉O->D v=FAR
 i3: ∀v k,K v=some k->v<N/\ ∃n:Nat,k=n/\Wk B s v n/\n<=O.length*WMAX
 i4: ∀a∈B,a.s∈O-> ¬ex a->a.t∈O\/ ∃k:Int,K a.t=some k/\k<=D a.s+a.w
 i5:s∈O\/K s=some 0
 nd:O.Nodup
 lt: ∀v∈O,v<N
theorem Dj.len(d:Dj B s N O D K ex):O.length<=N:=uM N O d.nd d.lt
theorem dj_init(b:s<N):Dj B s N [] (fun _=>FAR) (eQ (fun _=>none) s (some 0)) (fun _=>False):=by
 refine⟨fun v h=>(by cases h),fun v h=>(by cases h),fun v _=>rfl,fun v k h=>?_,fun a _ h=>(by cases h),.inr (by simp [eQ]),.nil,fun v h=>(by cases h)⟩
 unfold eQ at h
 split at h
 . rename_i e;cases h;subst e;exact⟨b,0,rfl,.nil,by simp⟩
 . cases h
theorem Dj.front(d:Dj B s N O D K (fun _=>False)){x w:Nat}(h:Wk B s x w):x∈O\/ ∃y k,K y=some k/\k<=(w:Int):=by
 induction h with
 |nil=>exact d.i5.imp (fun h=>h) (fun h=>⟨_,_,h,by omega⟩)
 | @snoc w a e f b=>
   rcases b with b|⟨y,k,c,g⟩
   . rcases d.i4 a e b (fun h=>h)with h|⟨k,c,g⟩
     . exact .inl h
     . have:=(d.i2 _ b).2.1 _ f
       exact .inr ⟨_,k,c,by omega⟩
   . exact .inr ⟨y,k,c,by omega⟩
theorem Dj.pop(d:Dj B s N O D K (fun _=>False)){v:Nat}{n:Nat}(q:K v=some (n:Int))(A: ∀u k,K u=some k->(n:Int)<=k):
 Dj B s N (O++[v]) (fun u=>if u=v then n else D u) (eQ K v none) (fun a=>a.s=v)/\v∉O/\v<N/\n<=O.length*WMAX:=by
 have g:v∉O:=fun h=>by have:=d.i1 v h;rw [q]at this;cases this
 obtain⟨i,C,e,E,l⟩:=d.i3 v _ q
 have e:n=C:=by omega
 subst e
 have r:(O++[v]).length*WMAX=O.length*WMAX+WMAX:=by rw [Xt,X6,Nat.succ_mul]
 refine⟨⟨fun u f=>?_,fun u f=>?_,fun u f=>?_,fun u k f=>?_,fun a o t x=>?_,?_,?_,fun u f=>?_⟩,g,i,l⟩
 . unfold eQ
   by_cases e:u=v
   . rw [if_pos e]
   . rw [if_neg e];simp [e]at f;exact d.i1 u f
 . rw [r]
   by_cases e:u=v
   . subst e
     simp only [if_true]
     refine⟨E,fun w h=>?_,by omega⟩
     rcases d.front h with j|⟨y,k,j,z⟩
     . exact absurd j g
     . have:=A y k j;omega
   . simp only [e,if_false]
     simp [e]at f
     obtain⟨a,b,c⟩:=d.i2 u f
     exact⟨a,b,by omega⟩
 . simp at f
   simp only [f.2,if_false]
   exact d.i2f u f.1
 . unfold eQ at f
   split at f
   . cases f
   . obtain⟨a,m,b,c,e⟩:=d.i3 u k f
     exact⟨a,m,b,c,by rw [r];omega⟩
 . simp [x]at t
   have p: ¬a.s=v:=x
   simp only [p,if_false]
   rcases d.i4 a o t (fun h=>h)with h|⟨k,j,z⟩
   . exact .inl (by simp [h])
   . by_cases e:a.t=v
     . exact .inl (by simp [e])
     . exact .inr ⟨k,by unfold eQ;rw [if_neg e];exact j,z⟩
 . rcases d.i5 with h|h
   . exact .inl (by simp [h])
   . by_cases e:s=v
     . exact .inl (by simp [e])
     . exact .inr (by unfold eQ;rw [if_neg e];exact h)
 . rw [Xn]
   exact⟨d.nd,by simp,fun a o b l e=>g (by simp at l;subst l;subst e;exact o)⟩
 . rcases List.mem_append.1 f with h|h
   . exact d.lt u h
   . simp at h;subst h;exact i
def iZ(O:List Nat)(K:Nat->Option Int)(u:Nat)(x:Int):Nat->Option Int:=if u∈O then K else match K u with
 |some k=>if k<=x then K else eQ K u (some x)
 |none=>eQ K u (some x)
theorem Dj.relaxed (d:Dj B s N O D K ex) {ex':Arc->Prop} {a:Arc} (t:a∈B) (u:a.s∈O) (w:a.t<N) (m:D a.s+a.w<=O.length*WMAX) (x: ∀b∈B,¬ex' b-> ¬ex b\/b=a):
 Dj B s N O D (iZ O K a.t ((D a.s+a.w:Nat):Int)) ex':=by
 have f: ∀i,(∀v,v∈O->i v=K v)->(∀v k,i v=some k->K v=some k\/(v=a.t/\k=((D a.s+a.w:Nat):Int)))->(∀v k,K v=some k-> ∃j,i v=some j/\j<=k)->(a.t∈O\/ ∃k:Int,i a.t=some k/\k<=D a.s+a.w)->Dj B s N O D i ex':=by
  intro i y q r z
  refine⟨fun v c=>by rw [y v c];exact d.i1 v c,d.i2,d.i2f,fun v k g=>?_,fun b m n o=>?_,?_,d.nd,d.lt⟩
  . rcases q v k g with h|⟨rfl,rfl⟩
    . exact d.i3 v k h
    . exact⟨w,_,rfl,.snoc t (d.i2 _ u).1,m⟩
  . rcases x b m o with h|rfl
    . rcases d.i4 b m n h with h|⟨k,A,E⟩
      . exact .inl h
      . obtain⟨j,l,C⟩:=r _ _ A
        exact .inr ⟨j,l,by omega⟩
    . exact z
  . rcases d.i5 with h|h
    . exact .inl h
    . obtain⟨j,l,C⟩:=r _ _ h
      rcases q _ _ l with p|⟨p,F⟩
      . rw [h]at p;exact .inr (by rw [l,p])
      . exact .inr (by rw [l];congr 1;omega)
 unfold iZ
 by_cases h:a.t∈O
 . rw [if_pos h];exact f K (fun _ _=>rfl) (fun _ _ h=>.inl h) (fun v k h=>⟨k,h,by omega⟩) (.inl h)
 . rw [if_neg h]
   have upd:(∀k,K a.t=some k->((D a.s+a.w:Nat):Int)<=k)->Dj B s N O D (eQ K a.t (some ((D a.s+a.w:Nat):Int))) ex':=fun g=>by
    refine f _ (fun v c=>?_) (fun v k c=>?_) (fun v k c=>?_) (.inr ⟨((D a.s+a.w:Nat):Int),by unfold eQ;rw [if_pos rfl],by omega⟩)
    . unfold eQ;rw [if_neg (fun e=>h (by subst e;exact c))]
    . unfold eQ at c
      split at c
      . rename_i e;cases c;exact .inr ⟨e,rfl⟩
      . exact .inl c
    . unfold eQ
      by_cases e:v=a.t
      . rw [if_pos e];subst e;exact⟨_,rfl,g k c⟩
      . rw [if_neg e];exact⟨k,c,by omega⟩
   cases g:K a.t with
   |none=>simp only [];exact upd (fun k e=>by rw [g]at e;cases e)
   | some k=>
     simp only []
     split
     . rename_i hle
       exact f K (fun _ _=>rfl) (fun _ _ h=>.inl h) (fun v k h=>⟨k,h,by omega⟩) (.inr ⟨k,g,by omega⟩)
     . rename_i hle
       exact upd (fun j e=>by rw [g]at e;cases e;omega)
theorem Dj.done(d:Dj B s N O D K (fun _=>False))(f: ∀v,K v=none)(g:N<=12)(v:Nat):IsD B s v (D v):=by
 have j:=Ya WMAX (Xc d.len g)
 have:=FAR_eq
 have:=WMAX_eq
 by_cases h:v∈O
 . obtain⟨a,b,c⟩:=d.i2 v h
   exact .inl ⟨by omega,a,b⟩
 . refine .inr ⟨d.i2f v h,fun w i=>?_⟩
   rcases d.front i with e|⟨y,k,e,_⟩
   . exact h e
   . rw [f]at e;cases e
end
theorem rR{A:List Arc}{f:Arc->Nat}{j v i:Nat}:i∈outs A f j v↔i<j/\f (A.getD i default)=v:=by
 unfold outs
 rw [List.mem_filter,List.mem_range,decide_eq_true_eq]
def cR(a:Arc):Arc:=⟨a.t,a.s,a.w⟩

structure Ls(B:List Arc)(s N:Nat)(l:Nat->Nat):Prop where
 le: ∀v,l v<=FAR
 wk: ∀v,l v=FAR\/Wk B s v (l v)
 s0:l s=0
def gy(l:Nat->Nat)(v x:Nat):Nat->Nat:=fun u=>if u=v then x else l u
theorem Ls.step{B:List Arc}{s N:Nat}{l:Nat->Nat}(h:Ls B s N l){a:Arc}(b:a∈B)(f:l a.s<FAR)(c:l a.s+a.w<l a.t):Ls B s N (gy l a.t (l a.s+a.w)):=by
 have d:=(h.wk a.s).resolve_left (by omega)
 refine⟨fun v=>?_,fun v=>?_,?_⟩
 . unfold gy;split
   . have:=h.le a.t;omega
   . exact h.le v
 . unfold gy;split
   . rename_i e;subst e;exact .inr (.snoc b d)
   . exact h.wk v
 . unfold gy;split
   . rename_i e;rw [<-e,h.s0]at c;omega
   . exact h.s0
end Go.Ab

end
section
namespace Go.Ab
def EM(l:List (Int×Value×Nat)):List (Value×Value×Nat):=l.map fun p=>(.int .i64 p.1,p.2.1,p.2.2)
def dY(f:Int->Option Value)(x:Int)(v:Option Value):Int->Option Value:=fun y=>if y=x then v else f y
def dO(a:List (Value×Value×Nat))(c:Nat)(f:Int->Option Value):Prop:=
 ∃l,a=EM l/\(l.map Xl).Nodup/\(l.map fun p=>p.2.2).Nodup/\(∀p∈l,p.2.2<c)/\ ∀x v,f x=some v↔ ∃n,(x,v,n)∈l
theorem ui{x y:Int}:ca (.int .i64 x) (.int .i64 y)=some (decide (x=y)):=by
 show some (io x y)=_
 congr 1
 rw [lG]
theorem zI{l:List (Int×Value×Nat)}(a:(l.map Xl).Nodup){x:Int}{v:Value}{n:Nat}(h:(x,v,n)∈l):bg (.int .i64 x) (EM l)=some (some (v,n)):=by
 induction l with
 |nil=>cases h
 | cons p l b=>
   obtain⟨y,w,m⟩:=p
   show(match ca (.int .i64 x) (.int .i64 y)with|none=>none|some true=>some (some (w,m))|some false=>bg (.int .i64 x) (EM l))=_
   rw [ui]
   grind
theorem find_miss{l:List (Int×Value×Nat)}{x:Int}(h:x∉l.map Xl):bg (.int .i64 x) (EM l)=some none:=by
 induction l with
 |nil=>rfl
 | cons p l a=>
   obtain⟨y,w,m⟩:=p
   show(match ca (.int .i64 x) (.int .i64 y)with|none=>none|some true=>some (some (w,m))|some false=>bg (.int .i64 x) (EM l))=_
   simp_all[ui,Xm,XE,not_or,decide_eq_false]
theorem tu{l:List (Int×Value×Nat)}(c:(l.map Xl).Nodup){x:Int}{v:Value}{n:Nat}(h:(x,v,n)∈l):
 ∃a b,l=a++(x,v,n)::b/\(∀w,jj (.int .i64 x) w (EM l)=EM (a++(x,w,n)::b))/\ke (.int .i64 x) (EM l)=EM (a++b):=by
 induction l with
 |nil=>cases h
 | cons p l d=>
   obtain⟨y,w,m⟩:=p
   rw [Xm,XC]at c
   by_cases e:x=y
   . subst e
     rcases List.mem_cons.1 h with h|h
     . cases h
       refine⟨[],l,rfl,fun u=>?_,?_⟩
       . show(match ca (.int .i64 x) (.int .i64 x)with|some true=>_|_=>_)=_
         rw [ui,decide_eq_true rfl];rfl
       . show(match ca (.int .i64 x) (.int .i64 x)with|some true=>_|_=>_)=_
         rw [ui,decide_eq_true rfl];rfl
     grind
   . rcases List.mem_cons.1 h with h|h
     . grind
     grind[ca,jj,EM,ui,decide_eq_false,ke]
theorem uI{a b:List (Int×Value×Nat)}{x:Int}{v w:Value}{n:Nat}(c:((a++(x,v,n)::b).map fun p=>p.2.2).Nodup):iH n w (EM (a++(x,v,n)::b))=some (EM (a++(x,w,n)::b)):=by
 induction a with
 | nil=>
   show(bif XF n n then _ else _)=_
   rw [Yl];rfl
 | cons p a d=>
   obtain⟨y,u,m⟩:=p
   rw [XW,Xm,XC]at c
   grind[XF,X7,absurd,iH,EM]
theorem fst_app{a b:List (Int×Value×Nat)}{x:Int}{v:Value}{n:Nat}:(a++(x,v,n)::b).map Xl=a.map Xl++x::b.map Xl:=by simp
section
variable{es:List (Value×Value×Nat)}{c:Nat}{f:Int->Option Value}{x:Int}
theorem uW:dO [] 0 (fun _=>none):=⟨[],rfl,.nil,.nil,fun _ h=>(by cases h),fun x v=>⟨fun h=>(by cases h),fun⟨_,h⟩=>(by cases h)⟩⟩
theorem dO.hit(h:dO es c f){v:Value}(hf:f x=some v): ∃n,bg (.int .i64 x) es=some (some (v,n)):=by
 obtain⟨l,rfl,a,b,d,e⟩:=h
 grind[hf,zI]
theorem dO.miss(h:dO es c f)(hf:f x=none):bg (.int .i64 x) es=some none:=by
 obtain⟨l,rfl,e,g,i,a⟩:=h
 refine find_miss fun b=>?_
 obtain⟨⟨y,v,n⟩,d,rfl⟩:=List.mem_map.1 b
 have:=(a y v).2 ⟨n,d⟩
 grind
theorem uR{a b:List (Int×Value×Nat)}{v w:Value}{n:Nat}(e:((a++(x,v,n)::b).map Xl).Nodup)(j:((a++(x,v,n)::b).map fun p=>p.2.2).Nodup)(g: ∀p∈a++(x,v,n)::b,p.2.2<c)
 (k: ∀x' v',f x'=some v'↔ ∃h,(x',v',h)∈a++(x,v,n)::b):dO (EM (a++(x,w,n)::b)) c (dY f x (some w)):=by
 have i:=e
 rw [fst_app,Xn]at i
 refine⟨_,rfl,by grind,by grind,fun p d=>?_,fun y u=>?_⟩
 . rcases List.mem_append.1 d with d|d
   . grind
   . rcases List.mem_cons.1 d with rfl|d
     . exact g (x,v,n) (by simp)
     grind
 . unfold dY
   grind
theorem vr{l:List (Int×Value×Nat)}{w:Value}(g:(l.map Xl).Nodup)(h:(l.map fun p=>p.2.2).Nodup)(i: ∀p∈l,p.2.2<c)(b: ∀x' v',f x'=some v'↔ ∃d,(x',v',d)∈l)(hf:f x=none):
 dO (EM (l++[(x,w,c)])) (c+1) (dY f x (some w)):=by
 have j:x∉l.map Xl:=fun e=>by
  obtain⟨⟨y,v,n⟩,a,rfl⟩:=List.mem_map.1 e
  have:=(b y v).2 ⟨n,a⟩
  grind
 refine⟨_,rfl,?_,?_,fun p a=>?_,fun y u=>?_⟩
 . grind
 . grind
 . grind
 . unfold dY
   grind
theorem em_app(l:List (Int×Value×Nat))(v:Value)(n:Nat):EM l++[(.int .i64 x,v,n)]=EM (l++[(x,v,n)]):=by unfold EM;grind
theorem dO.put(h:dO es c f)(v:Value): ∃es' c',(match bg (.int .i64 x) es with|none=>none|some (some _)=>some (jj (.int .i64 x) v es,c)|some none=>some (es++[(.int .i64 x,v,c)],c+1))=some (es',c')/\dO es' c' (dY f x (some v)):=by
 cases hf:f x with
 | none=>
   rw [h.miss hf]
   obtain⟨l,rfl,d,i,j,g⟩:=h
   exact⟨_,_,rfl,by rw [em_app];exact vr d i j g hf⟩
 | some w=>
   obtain⟨n,e⟩:=h.hit hf
   rw [e]
   obtain⟨l,rfl,d,i,j,g⟩:=h
   obtain⟨m,k⟩:=(g x w).1 hf
   obtain⟨a,b,rfl,o,_⟩:=tu d k
   exact⟨_,_,rfl,by rw [o];exact uR d i j g⟩
theorem del_miss{l:List (Int×Value×Nat)}(h:x∉l.map Xl):ke (.int .i64 x) (EM l)=EM l:=by
 induction l with
 |nil=>rfl
 | cons p l a=>
   obtain⟨y,w,m⟩:=p
   simp only [Xm,XE,not_or]at h
   grind[ca,ke,EM,ui,decide_eq_false]
theorem dO.del(h:dO es c f):dO (ke (.int .i64 x) es) c (dY f x none):=by
 obtain⟨l,rfl,d,o,g,i⟩:=h
 cases hf:f x with
 | none=>
   have q:x∉l.map Xl:=fun e=>by
    obtain⟨⟨y,v,n⟩,j,rfl⟩:=List.mem_map.1 e
    have:=(i y v).2 ⟨n,j⟩
    grind
   rw [del_miss q]
   refine⟨l,rfl,d,o,g,fun y u=>?_⟩
   unfold dY
   grind
 | some w=>
   obtain⟨m,e⟩:=(i x w).1 hf
   obtain⟨a,b,rfl,_,r⟩:=tu d e
   rw [r]
   have k:=d
   rw [fst_app,Xn]at k
   obtain⟨t,s,z⟩:=k
   rw [XC]at s
   refine⟨a++b,rfl,?_,?_,fun p j=>g p ?_,fun y u=>?_⟩
   . grind
   . grind
   . grind
   . unfold dY
     grind
theorem dO.ent(h:dO es c f)(z:Value): ∃d q n,(match bg (.int .i64 x) es with|none=>none|some (some (v,n))=>some (jj (.int .i64 x) v es,c,v,n)|some none=>some (es++[(.int .i64 x,z,c)],c+1,z,c))=some (d,q,(f x).getD z,n)/\dO d q (dY f x (some ((f x).getD z)))/\
 ∀w,∃es2,iH n w d=some es2/\dO es2 q (dY f x (some w)):=by
 cases hf:f x with
 | none=>
   rw [h.miss hf]
   obtain⟨l,rfl,g,i,o,j⟩:=h
   have k:=vr (w:=z) g i o j hf
   refine⟨_,_,_,rfl,by rw [em_app];exact k,fun w=>?_⟩
   rw [em_app]
   obtain⟨u,e,y,A,B,C⟩:=k
   have t:((l++(x,z,c)::[]).map fun p=>p.2.2).Nodup:=by
    grind
   exact⟨_,uI t,vr g i o j hf⟩
 | some v=>
   obtain⟨l,rfl,g,i,o,j⟩:=h
   obtain⟨m,r⟩:=(j x v).1 hf
   rw [zI g r]
   obtain⟨a,b,rfl,s,_⟩:=tu g r
   refine⟨_,_,_,rfl,by rw [s];exact uR g i o j,fun w=>?_⟩
   rw [s]
   exact⟨_,uI (by simpa using i),uR g i o j⟩
end

section
variable{M:Nat->Prop}{h0 h:Hp}{L:List (Nat×Ob)}{G:List GL}{E:Env}{t kt el:TypeId}{b c:Nat}{es:List (Value×Value×Nat)}{f:Int->Option Value}{x:Int}
theorem tg(a:E.und kt=some (.int .i64)):bE E kt (.int .i64 x)=true:=by simp only [bE,a];rfl
theorem rI(a:E.und t=some (.map kt el))(d:E.und kt=some (.int .i64)){z:Value}(g:E.zeroV el=some z)(i:h.get b=some (.map es c))(m:dO es c f):
 dy E h t (.map (some b)) (.int .i64 x) true=some (.tuple #[(f x).getD z,.bool (f x).isSome]):=by
 simp only [dy,a,tg d,cond_true,i]
 cases hf:f x with
 |none=>rw [m.miss hf];simp [g]
 |some v=>obtain⟨n,e⟩:=m.hit hf;rw [e];simp
theorem tS(a:E.und t=some (.map kt el))(d:E.und kt=some (.int .i64)){z:Value}(g:E.zeroV el=some z)(i:h.get b=some (.map es c))(m:dO es c f):
 dy E h t (.map (some b)) (.int .i64 x) false=some ((f x).getD z):=by
 simp only [dy,a,tg d,cond_true,i]
 cases hf:f x with
 |none=>rw [m.miss hf];simp [g]
 |some v=>obtain⟨n,e⟩:=m.hit hf;rw [e];simp
theorem pL{x:Blk}{es':List (Value×Value×Nat)}{c':Nat}(a:h.get b=some x):(h.put b (.map es' c')).get b=some (.map es' c'):=by rw [Hp.get_put,if_pos ⟨rfl,by rw [a];rfl⟩]
theorem St.mputI(S:St M h0 h L G){i:Nat}(d:L[i]? =some (b,.map es c))(g:E.und t=some (.map kt el))(j:E.und kt=some (.int .i64))(m:dO es c f)(v:Value):
 ∃a,dX E h t (.map (some b)) (.int .i64 x) v=some a/\Mo (· =b) h a/\ ∃es' c',dO es' c' (dY f x (some v))/\St M h0 a (L.set i (b,.map es' c')) G:=by
 have e:h.get b=some (.map es c):=(S.own _ (Xa d)).2
 obtain⟨es',c',l,k⟩:=m.put (x:=x) v
 refine⟨h.put b (.map es' c'),?_,(Mo.refl (M:=(· =b)) S.ok).put (.inr rfl) _,es',c',k,S.put d (o':=.map es' c') (pL e)⟩
 simp only [dX,jr,g,tg j,cond_true,e]
 grind
theorem St.mdelI(S:St M h0 h L G){i:Nat}(d:L[i]? =some (b,.map es c))(j:E.und t=some (.map kt el))(k:E.und kt=some (.int .i64))(m:dO es c f):
 ∃a,mD E h t (.map (some b)) (.int .i64 x)=some a/\Mo (· =b) h a/\ ∃es' c',dO es' c' (dY f x none)/\St M h0 a (L.set i (b,.map es' c')) G:=by
 have g:h.get b=some (.map es c):=(S.own _ (Xa d)).2
 refine⟨h.put b (.map (ke (.int .i64 x) es) c),?_,(Mo.refl (M:=(· =b)) S.ok).put (.inr rfl) _,_,c,m.del (x:=x),S.put d (o':=.map _ c) (pL g)⟩
 simp only [mD,jr,j,tg k,cond_true,g]
 cases hf:f x with
 |none=>rw [m.miss hf]
 |some v=>obtain⟨n,e⟩:=m.hit hf;rw [e]
theorem St.mentI(S:St M h0 h L G){i:Nat}(d:L[i]? =some (b,.map es c))(g:E.und t=some (.map kt el))(j:E.und kt=some (.int .i64)){z:Value}(k:E.zeroV el=some z)(m:dO es c f):
 ∃ a n,jB E h t (.map (some b)) (.int .i64 x)=some (a,.tuple #[(f x).getD z,.int .i64 (Ym n)])/\Mo (· =b) h a/\ ∃es' c',dO es' c' (dY f x (some ((f x).getD z)))/\St M h0 a (L.set i (b,.map es' c')) G/\
   ∀w,∃es2,iH n w es'=some es2/\dO es2 c' (dY f x (some w)):=by
 have e:h.get b=some (.map es c):=(S.own _ (Xa d)).2
 obtain⟨es',c',n,p,l,o⟩:=m.ent (x:=x) z
 refine⟨h.put b (.map es' c'),n,?_,(Mo.refl (M:=(· =b)) S.ok).put (.inr rfl) _,es',c',l,S.put d (o':=.map es' c') (pL e),o⟩
 simp only [jB,jr,g,tg j,cond_true,e,k]
 grind
theorem St.mstoreI(S:St M h0 h L G){i n:Nat}(d:L[i]? =some (b,.map es c)){w:Value}{es2:List (Value×Value×Nat)}(g:iH n w es=some es2):
 ∃a,lu h (.map (some b)) (.int .i64 (Ym n)) w=some a/\Mo (· =b) h a/\St M h0 a (L.set i (b,.map es2 c)) G:=by
 have e:h.get b=some (.map es c):=(S.own _ (Xa d)).2
 refine⟨h.put b (.map es2 c),?_,(Mo.refl (M:=(· =b)) S.ok).put (.inr rfl) _,S.put d (o':=.map es2 c) (pL e)⟩
 simp only [lu,e,fe,g]
end
end Go.Ab

end
section
namespace Go.Ab
def kZ(x:Hd):List Value:=[.int .i64 x.id,.int .i64 x.key]
theorem ku(x:Hd):(kZ x).length=2:=rfl
structure dV(cs:List Value)(cap:Nat)(l:List Hd):Prop where
 len:cs.length=cap*2
 le:l.length<=cap
 at0: ∀i,i<l.length->cs[i*2]? =some (.int .i64 (l.getD i default).id)/\cs[i*2+1]? =some (.int .i64 (l.getD i default).key)
def jX(f:Int->Option Value)(l:List Hd):Prop:=(∀i,i<l.length->f (l.getD i default).id=some (.int .i64 i))/\ ∀x v,f x=some v-> ∃i,i<l.length/\x=(l.getD i default).id
section
variable{h:Hp}{bl cap i:Nat}{cs:List Value}{l:List Hd}{md:Nat}
theorem dV.ld0(c:dV cs cap l)(r:Row h bl cs md)(a:i<l.length):h.load bl (i*2) 1=some [.int .i64 (l.getD i default).id]:=r.load1 (c.at0 i a).1
theorem dV.ld1(c:dV cs cap l)(r:Row h bl cs md)(a:i<l.length):h.load bl (i*2+1) 1=some [.int .i64 (l.getD i default).key]:=r.load1 (c.at0 i a).2
theorem dV.ld2(c:dV cs cap l)(r:Row h bl cs md)(a:i<l.length):h.load bl (i*2) 2=some [.int .i64 (l.getD i default).id,.int .i64 (l.getD i default).key]:=by
 have d:=(c.at0 i a).1
 have b:=(c.at0 i a).2
 have e:=(List.getElem?_eq_some_iff.1 b).1
 rw [r.load (by omega)]
 grind[List.drop_eq_getElem_cons,List.getElem?_eq_some_iff]
theorem vu{x y:Value}(a:i*2+2<=cs.length)(j:Nat):(lay cs (i*2) [x,y])[j]? =if j=i*2 then some x else if j=i*2+1 then some y else cs[j]? :=by
 rw [jG (by simpa using a)]
 grind
theorem dV.set(c:dV cs cap l)(d:i<l.length)(x:Hd):dV (lay cs (i*2) [.int .i64 x.id,.int .i64 x.key]) cap (l.set i x):=by
 have f:=c.len
 have hle:=c.le
 have a:i*2+2<=cs.length:=by omega
 refine⟨by grind[pq],by grind,fun j b=>?_⟩
 rw [Xf]at b
 rw [vu a,vu a,qg]
 by_cases e:i=j
 . grind
 . rw [if_neg (by omega),if_neg (by omega),if_neg (by omega),if_neg (by omega),if_neg (by omega)]
   exact c.at0 j b
theorem dV.setKey(c:dV cs cap l)(a:i<l.length)(k:Int):dV (lay cs (i*2+1) [.int .i64 k]) cap (l.set i ⟨(l.getD i default).id,k⟩):=by
 have d:=c.len
 have hle:=c.le
 have e:lay cs (i*2+1) [.int .i64 k]=lay cs (i*2) [.int .i64 (l.getD i default).id,.int .i64 k]:=by
  refine Xo fun j=>?_
  rw [vu (by omega),jG (by simp;omega)]
  simp only [List.length_cons,List.length_nil]
  by_cases b:j=i*2
  . subst b;rw [if_neg (by omega),if_pos rfl];exact(c.at0 i a).1
  grind
 rw [e]
 exact c.set a ⟨(l.getD i default).id,k⟩
end
theorem set_sw(l:List Hd)(i k:Nat):(l.set i (l.getD k default)).set k (l.getD i default)=sw l i k:=rfl
theorem jX.inj{f:Int->Option Value}{l:List Hd}(h:jX f l){i j:Nat}(a:i<l.length)(b:j<l.length)(e:(l.getD i default).id=(l.getD j default).id):i=j:=by
 have c:=h.1 i a
 have d:=h.1 j b
 grind
theorem jX.swap{f:Int->Option Value}{l:List Hd}(h:jX f l){i k:Nat}(a:i<l.length)(c:k<l.length):
 jX (dY (dY f ((sw l i k).getD i default).id (some (.int .i64 i))) ((sw l i k).getD k default).id (some (.int .i64 k))) (sw l i k):=by
 have o:=iW l a c i
 have p:=iW l a c k
 rw [if_pos rfl]at p
 refine⟨fun j b=>?_,fun x v n=>?_⟩
 . rw [ik]at b
   have d:=iW l a c j
   unfold dY
   by_cases g:j=k
   . grind
   . rw [if_neg g]at d
     by_cases m:j=i
     . subst m
       rw [if_neg,if_pos rfl]
       rw [if_neg g,if_pos rfl]at o
       rw [o,p]
       intro e
       exact g (h.inj c a (by omega)).symm
     . rw [if_neg m]at d
       rw [if_neg,if_neg]
       . rw [d];exact h.1 j b
       . rw [d,o]
         intro e
         split at e
         . exact m (h.inj b a (by omega))
         . rename_i q;rw [if_pos rfl]at e;exact g (h.inj b c (by omega))
       . rw [d,p]
         intro e
         exact m (h.inj b a (by omega))
 . unfold dY at n
   by_cases g:x=((sw l i k).getD k default).id
   . grind[ik]
   . rw [if_neg g]at n
     by_cases m:x=((sw l i k).getD i default).id
     . grind[ik]
     . rw [if_neg m]at n
       obtain⟨j,b,e⟩:=h.2 x v n
       refine⟨j,by rw [ik];exact b,?_⟩
       have d:=iW l a c j
       grind
structure fP(h:Hp)(bh bl bm cap:Nat)(n:Int)(l:List Hd):Prop where
 row:Row h bh [.slice (some ⟨bl,0,some 2⟩) l.length cap,.map (some bm),.int .i64 n] 1
 ex: ∃cs es c f,Row h bl cs 1/\h.get bm=some (.map es c)/\dV cs cap l/\dO es c f/\jX f l
 ne:bh≠bl/\bh≠bm/\bl≠bm
theorem fP.mo{M:Nat->Prop}{h k:Hp}{e i j cap:Nat}{n:Int}{l:List Hd}(r:fP h e i j cap n l)(g:Mo M h k)(p: ¬M e)(q: ¬M i)(s: ¬M j):fP k e i j cap n l:=by
 obtain⟨t,m,c,f,a,b,d⟩:=r.ex
 exact⟨g.has (o:=.row _ 1) r.row p,⟨t,m,c,f,g.has (o:=.row _ 1) a q,g.has (o:=.map m c) b s,d⟩,r.ne⟩
theorem fP.mo1{M:Nat->Prop}{h f:Hp}{a b d cap:Nat}{n:Int}{l:List Hd}(r:fP h a b d cap n l)(g:Mo M h f)(e: ∀c,c=a\/c=b\/c=d-> ¬M c):fP f a b d cap n l:=
 r.mo g (e _ (.inl rfl)) (e _ (.inr (.inl rfl))) (e _ (.inr (.inr rfl)))
theorem fP.lt{h:Hp}(e:h.t.Sized h.n){g i j cap:Nat}{n:Int}{l:List Hd}(r:fP h g i j cap n l): ∀c,c=g\/c=i\/c=j->c<h.n:=by
 obtain⟨k,m,c,f,a,b,d⟩:=r.ex
 rintro c (rfl|rfl|rfl)
 . exact r.row.lt e
 . exact a.lt e
 . exact hZ e b
theorem fP.gr{h a:Hp}{b c d cap:Nat}{n:Int}{l:List Hd}(r:fP h b c d cap n l)(g:Gr h a):fP a b c d cap n l:=r.mo (M:=NoM) g.fr (fun h=>h) (fun h=>h) (fun h=>h)
theorem St.init2{M:Nat->Prop}{h:Hp}(d:h.t.Sized h.n){a b:Nat}{o1 o2:Ob}(e:Has h a o1)(f:Has h b o2)(c:a≠b)(m1:M a)(m2:M b):St M h h [(a,o1),(b,o2)] []:=by
 refine⟨Mo.refl d,fun p g=>?_,fun _ h=>(by cases h),by simp [keys,c]⟩
 grind
theorem St.init3{M:Nat->Prop}{h:Hp}(d:h.t.Sized h.n){a b c:Nat}{o1 o2 o3:Ob}(i:Has h a o1)(j:Has h b o2)(k:Has h c o3)(e:a≠b)(f:a≠c)(g:b≠c)(m1:M a)(m2:M b)(m3:M c):St M h h [(a,o1),(b,o2),(c,o3)] []:=by
 refine⟨Mo.refl d,fun p l=>?_,fun _ h=>(by cases h),by simp [keys,e,f,g]⟩
 grind
end Go.Ab

end
section
namespace Go.Ab
open Go.Proofs
set_option maxRecDepth 10000
def Tryz.FO:=aj t1<|aj t2<|aj t3<|aj t4<|aj t5<|aj t6<|aj Z0<|aj Z2<|t38
def Tryz.F0G:=aj t1<|aj t2<|aj t3<|aj t4<|aj t38<|aj t213<|aj t320<|aj Z12<|aj Z16<|t344
def Tryz.F0d:=aj t1<|aj t2<|aj t3<|aj t213<|aj t320<|aj Z12<|aj Z16<|t344
def cmpI(a b:Int):Int:=if a<b then-1 else if b<a then 1 else 0
theorem zw{b:Hp}(c:b.t.Sized b.n){a:Int}:bG zB 248 [.int .i64 a] b (.bool false):=by
 have S:=Si c
 refine ab (n:=6) (rs:=[.tmp 2]) rfl Tryz.e248 rfl rfl rfl (lbt rfl) ?_
 simp only [BS,LB,ae,Nat.reduceLT,Nat.reduceEqDiff]
 exact S.gr
theorem nanI_ok{b:Hp}(c:b.t.Sized b.n){a:Int}:bG zB 249 [.int .i64 a] b (.bool false):=by
 have S:=Si c
 refine ab (n:=6) (rs:=[.tmp 2]) rfl Tryz.e249 rfl rfl rfl (lbt rfl) ?_
 simp only [BS,LB,ae,Nat.reduceLT,Nat.reduceEqDiff]
 exact S.gr
theorem cmp64_ok{c:Hp}(f:c.t.Sized c.n){a b:Int}:bG zB 243 [.int .i64 a,.int .i64 b] c (.int .i64 (cmpI a b)):=by
 have S:=Si f
 unfold cmpI
 refine ab (n:=20) (rs:=[.tmp 4]) rfl Tryz.e243 rfl rfl rfl (lbt rfl) ?_
 simp only [BS,LB,Nat.reduceLT,Nat.reduceEqDiff]
 refine al (zw S.ok) ?_;intro h g;replace S:=S.call g;clear g
 simp only [BS,LB,Nat.reduceLT,Nat.reduceEqDiff]
 refine al (zw S.ok) ?_;intro h g;replace S:=S.call g;clear g
 by_cases d:a<b
 . simp only [BS,LB,ae,Nat.reduceLT,Nat.reduceEqDiff,d]
   exact S.gr
 . by_cases e:b<a
   . simp only [BS,LB,ae,Nat.reduceLT,Nat.reduceEqDiff,d,e]
     exact S.gr
   . simp only [BS,LB,ae,Nat.reduceLT,Nat.reduceEqDiff,d,e]
     exact S.gr
theorem cmpInt_ok{c:Hp}(f:c.t.Sized c.n){a b:Int}:bG zB 244 [.int .i64 a,.int .i64 b] c (.int .i64 (cmpI a b)):=by
 have S:=Si f
 unfold cmpI
 refine ab (n:=20) (rs:=[.tmp 4]) rfl Tryz.e244 rfl rfl rfl (lbt rfl) ?_
 simp only [BS,LB,Nat.reduceLT,Nat.reduceEqDiff]
 refine al (nanI_ok S.ok) ?_;intro h g;replace S:=S.call g;clear g
 simp only [BS,LB,Nat.reduceLT,Nat.reduceEqDiff]
 refine al (nanI_ok S.ok) ?_;intro h g;replace S:=S.call g;clear g
 by_cases d:a<b
 . simp only [BS,LB,ae,Nat.reduceLT,Nat.reduceEqDiff,d]
   exact S.gr
 . by_cases e:b<a
   . simp only [BS,LB,ae,Nat.reduceLT,Nat.reduceEqDiff,d,e]
     exact S.gr
   . simp only [BS,LB,ae,Nat.reduceLT,Nat.reduceEqDiff,d,e]
     exact S.gr
theorem or2_ok{c:Hp}(q:c.t.Sized c.n){v:Value}{a b:Int}(h:ay c 1 (encI .i64) v [a,b]):bG zB 242 [v] c (.int .i64 (if a=0 then b else a)):=by
 have S:=Si q
 obtain⟨j,k,r,f⟩:=h.ix (kd:=.i64) (aH .i64) (i:=0) (by simp)
 obtain⟨l,m,s,g⟩:=h.ix (kd:=.i64) (aH .i64) (i:=1) (by simp)
 have d:iQ (some 1) v (.int .i64 0)=some (.pointer (some ⟨j,k,none⟩)):=r
 have e:iQ (some 1) v (.int .i64 1)=some (.pointer (some ⟨l,m,none⟩)):=s
 replace f:c.load j k 1=some [.int .i64 a]:=f
 replace g:c.load l m 1=some [.int .i64 b]:=g
 have t:am .i64 1=1:=rfl
 have u:am .i64 2=2:=rfl
 refine ab (n:=18) (rs:=[.tmp 2]) rfl Tryz.e242 rfl rfl rfl (lbt rfl) ?_
 simp only [BS,LB,Nat.reduceLT,Nat.reduceEqDiff,Nat.reduceAdd,zO,FO,h.lenq]
 rw [dB]
 by_cases o:a=0
 . simp only [BS,LB,Nat.reduceLT,Nat.reduceEqDiff,Int.reduceLT,Int.reduceAdd,FO,d,f,o,t]
   rw [dB]
   by_cases p:b=0
   . simp only [BS,LB,Nat.reduceLT,Nat.reduceEqDiff,Int.reduceLT,Int.reduceAdd,FO,e,g,p,u]
     rw [dB]
     simp only [BS,LB,ae,Nat.reduceLT,Nat.reduceEqDiff,Int.reduceLT]
     exact S.gr
   . simp only [BS,LB,ae,Nat.reduceLT,Nat.reduceEqDiff,Int.reduceLT,FO,e,g,p]
     exact S.gr
 . simp only [BS,LB,ae,Nat.reduceLT,Nat.reduceEqDiff,Int.reduceLT,FO,d,f,o]
   exact S.gr
theorem zu{r:Hp}(u:r.t.Sized r.n){v x D cap:Nat}{n:Int}{l:List Hd}(R:fP r v x D cap n l){i k:Nat}(s:i<l.length)(t:k<l.length):
 bG zB 236 [ptrTo v,.int .i64 i,.int .i64 k] r (.bool (decide (hlt (l.getD i default) (l.getD k default)))):=by
 have S:=Si u
 obtain⟨G,H,c,f,d,I,C,J,K⟩:=R.ex
 have a:=R.row.load1 (o:=0) rfl
 have e:=C.ld0 d s
 have j:=C.ld1 d s
 have m:=C.ld0 d t
 have p:=C.ld1 d t
 refine ab (n:=44) (rs:=[.tmp 6]) rfl Tryz.e236 rfl rfl rfl (lbt rfl) ?_
 simp only [BS]
 refine au (ax rfl) (q:=17179869184) (ps:=[(16,32),(16,28),(16,24),(16,20)]) (by kernel_rfl) ?_
 simp only [BS,LB,cls,Nat.reduceLT,Nat.reduceEqDiff,Nat.reduceAdd,Nat.reducePow,Nat.reduceDiv,Nat.reduceMod,Nat.reduceLeDiff,F0G,a,s,t,j,p]
 refine eZ (cmp64_ok S.ok) ?_
 intro h g;replace S:=S.call g
 replace a:=g.load a;replace e:=g.load e;replace j:=g.load j;replace m:=g.load m;replace p:=g.load p
 have y:leaves _ _ x=true:=aP g (d.lt u)
 have z:leaves _ _ v=true:=aP g (R.row.lt u)
 clear g
 simp only [BS,LB,cls,Nat.reduceLT,Nat.reduceEqDiff,Nat.reduceAdd,Nat.reducePow,Nat.reduceDiv,Nat.reduceMod,Nat.reduceLeDiff,F0G,a,s,t,e,m]
 refine eZ (cmpInt_ok S.ok) ?_
 intro L g;replace S:=S.call g
 replace a:=g.load a;replace e:=g.load e;replace j:=g.load j;replace m:=g.load m;replace p:=g.load p
 clear g
 simp only [BS,LB,cls,Nat.reduceLT,Nat.reduceEqDiff,Nat.reduceAdd,Nat.reducePow,Nat.reduceDiv,Nat.reduceMod,Nat.reduceLeDiff]
 refine ec (bj (by exact Tryz.t38.1) (by exact Yr) (by decide) (by rfl)) S ?_;clear S;intro h w S A B;simp only [LC,aU,bA,ah,Nat.reduceMul,Nat.reduceAdd,Xx,Xs,Xr,XK]at S
 simp only [BS,LB,cls,Nat.reduceLT,Nat.reduceEqDiff,Nat.reduceAdd,Nat.reducePow,Nat.reduceDiv,Nat.reduceMod,Nat.reduceLeDiff]
 have E:ay h 1 (encI .i64) (.slice (some ⟨w,0,none⟩) 2 2) [cmpI (l.getD i default).key (l.getD k default).key,cmpI (l.getD i default).id (l.getD k default).id]:=.inr ⟨w,0,none,2,rfl,Xj _,S.lds (b:=w) (o:=0) (n:=2*1) m0 (lbt rfl)⟩
 refine eZ (or2_ok S.ok E) ?_
 intro M g;replace S:=S.call g;clear g
 simp only [BS,LB,cls,ae,Nat.reduceLT,Nat.reduceEqDiff,Nat.reduceAdd,Nat.reducePow,Nat.reduceDiv,Nat.reduceMod,Nat.reduceLeDiff]
 refine⟨by simp only [aX,bo,aS,bD,aV,ne_eq,not_false_eq_true,bC,bR,aZ,aW,bZ,cu,aT,Nat.reduceLT,Nat.reduceEqDiff,reduceIte,XP,ac,aQ y,aQ z,aD y,aD z],?_⟩
 have F:decide ((if cmpI (l.getD i default).key (l.getD k default).key=0 then cmpI (l.getD i default).id (l.getD k default).id else cmpI (l.getD i default).key (l.getD k default).key)<0)=decide (hlt (l.getD i default) (l.getD k default)):=by
  congr 1
  rw [eq_iff_iff]
  unfold cmpI hlt
  repeat' split
  all_goals omega
 exact⟨by rw [F],S.gr⟩
theorem uv{r:Hp}(ok:r.t.Sized r.n){A g j cap:Nat}{n:Int}{l:List Hd}(R:fP r A g j cap n l){i k:Nat}(y:i<l.length)(s:k<l.length):
 Ret zB 221 [ptrTo A,.int .i64 i,.int .i64 k] r fun v d=>Mo (fun c=>c=g\/c=j) r d/\fP d A g j cap n (sw l i k):=by
 obtain⟨Y,es,c,f,H,hm,C,MI,IF⟩:=R.ex
 have S:=St.init2 (M:=fun c=>c=g\/c=j) ok (o1:=.row Y 1) (o2:=.map es c) H hm R.ne.2.2 (.inl rfl) (.inr rfl)
 have G: ¬(A=g\/A=j):=fun h=>h.elim R.ne.1 R.ne.2.1
 have I:=R.row.load1 (o:=0) rfl
 have r1:=R.row.load1 (o:=1) rfl
 have i2:=C.ld2 H y
 have k2:=C.ld2 H s
 have Z:=C.len
 have ad:=C.le
 refine ab (n:=62) (rs:=[]) rfl Tryz.e221 rfl rfl rfl (lbt rfl) ?_
 simp only [BS]
 refine au (ax rfl) (q:=0) (ps:=[]) (by kernel_rfl) ?_
 simp only [BS,LB,cls,Nat.reduceLT,Nat.reduceEqDiff,Nat.reduceAdd,Nat.reducePow,Nat.reduceDiv,Nat.reduceMod,Nat.reduceLeDiff,F0d,I,y,s,i2,k2]
 refine d9 (S.store (i:=0) rfl Tryz.t328.2.1 (by intro x e;cases e) rfl rfl (by omega) ono) ?_
 clear S;rintro h ⟨S,t⟩;clear t
 have J:=C.set y (l.getD k default)
 simp only [LC,ah]at S
 have m:=S.old I G
 simp only [BS,LB,cls,Nat.reduceLT,Nat.reduceEqDiff,Nat.reduceAdd,Nat.reducePow,Nat.reduceDiv,Nat.reduceMod,Nat.reduceLeDiff,F0d,s]
 generalize lay Y (i*2) _=K at S J
 have af:=J.len
 refine d9 (S.store (i:=0) (off:=k*2) rfl Tryz.t328.2.1 (by intro x e;cases e) rfl rfl (by omega) ono) ?_
 clear S;rintro h ⟨S,t⟩;clear t
 have B:=J.set (i:=k) (by rw [Xf];exact s) (l.getD i default)
 simp only [LC,ah]at S
 generalize lay K (k*2) _=u at S B
 rw [set_sw]at B
 clear m
 have m:=S.old I G
 have D:=S.old r1 G
 have L:i<(sw l i k).length:=by rw [ik];exact y
 have N:k<(sw l i k).length:=by rw [ik];exact s
 have ai:=B.ld0 (S.row m0) L
 have ak:=B.ld0 (S.row m0) N
 simp only [BS,LB,Nat.reduceAdd]
 refine au (ax rfl) (q:=0) (ps:=[]) (by kernel_rfl) ?_
 simp only [BS,LB,cls,Nat.reduceLT,Nat.reduceEqDiff,Nat.reduceAdd,Nat.reducePow,Nat.reduceDiv,Nat.reduceMod,Nat.reduceLeDiff,F0d,m,D,y,s,ai,ak]
 refine jx (P:=fun d v=> ∃n a p,v=.tuple #[(f ((sw l i k).getD i default).id).getD (.int .i64 0),.int .i64 (Ym n)]/\St (fun c=>c=g\/c=j) r d [(g,.row u 1),(j,.map a p)] []/\ ∀w,∃b,iH n w a=some b/\dO b p (dY f ((sw l i k).getD i default).id (some w))) ?_ ?_
 . obtain⟨d,n,O,_,a,p,_,Q,e5⟩:=S.mentI (i:=1) (x:=(((sw l i k).getD i default).id:Int)) rfl Tryz.t213.1 Tryz.t3.1 (z:=.int .i64 0) (by kernel_rfl) MI
   exact⟨d,_,O,n,a,p,rfl,Q,e5⟩
 clear S ai ak m D
 rintro h v ⟨s1,aL,c1,rfl,S,T⟩
 obtain⟨b,U,V⟩:=T (.int .i64 i)
 simp only [BS,LB,cls,Nat.reduceLT,Nat.reduceEqDiff,Nat.reduceAdd,Nat.reducePow,Nat.reduceDiv,Nat.reduceMod,Nat.reduceLeDiff,Yb]
 refine d9 (S.mstoreI (i:=1) rfl U) ?_
 clear S;rintro h ⟨t,S⟩;clear t
 simp only [LC]at S
 simp only [BS,LB,cls,Nat.reduceLT,Nat.reduceEqDiff,Nat.reduceAdd,Nat.reducePow,Nat.reduceDiv,Nat.reduceMod,Nat.reduceLeDiff]
 refine jx (P:=fun d v=> ∃n a p,v=.tuple #[(dY f ((sw l i k).getD i default).id (some (.int .i64 i)) ((sw l i k).getD k default).id).getD (.int .i64 0),.int .i64 (Ym n)]/\St (fun c=>c=g\/c=j) r d [(g,.row u 1),(j,.map a p)] []/\ ∀w,∃b,iH n w a=some b/\dO b p (dY (dY f ((sw l i k).getD i default).id (some (.int .i64 i))) ((sw l i k).getD k default).id (some w))) ?_ ?_
 . obtain⟨d,n,O,_,a,p,_,Q,e5⟩:=S.mentI (i:=1) (x:=(((sw l i k).getD k default).id:Int)) rfl Tryz.t213.1 Tryz.t3.1 (z:=.int .i64 0) (by kernel_rfl) V
   exact⟨d,_,O,n,a,p,rfl,Q,e5⟩
 clear S
 rintro h v ⟨s2,a0,c3,rfl,S,E⟩
 obtain⟨W,F,X⟩:=E (.int .i64 k)
 simp only [BS,LB,cls,Nat.reduceLT,Nat.reduceEqDiff,Nat.reduceAdd,Nat.reducePow,Nat.reduceDiv,Nat.reduceMod,Nat.reduceLeDiff,Yb]
 refine d9 (S.mstoreI (i:=1) rfl F) ?_
 clear S;rintro h ⟨t,S⟩;clear t
 simp only [LC]at S
 simp only [BS,LB,Nat.reduceAdd]
 refine⟨S.fr,?_,⟨u,W,c3,_,S.row m0,(S.own _ m1).2,B,X,IF.swap y s⟩,R.ne⟩
 rw [ik]
 exact S.fr.has (o:=.row _ 1) R.row G
theorem up_ok{b:Hp}(w:b.t.Sized b.n){d e j cap:Nat}{n:Int}{l:List Hd}(R:fP b d e j cap n l){i:Nat}(s:i<l.length)(z:l.length<1000000)(U:se l i):
 Ret zB 219 [ptrTo d,.int .i64 i] b fun v t=>Mo (fun c=>c=e\/c=j) b t/\ ∃l',fP t d e j cap n l'/\l'.Perm l/\mJ l':=by
 refine ab (n:=23) (rs:=[]) rfl Tryz.e219 rfl rfl rfl (lbt rfl) ?_
 simp only [BS]
 refine az (fun(i:Nat) o h=>i<l.length/\Mo (fun c=>c=e\/c=j) b h/\ ∃l',fP h d e j cap n l'/\l'.Perm l/\se l' i/\o 0=ptrTo d/\o 1=.int .i64 i) (fun i=>i) ?_ i _ _ ?_
 . intro i x o h ⟨s,a,l',R,pm,U,r0,r1⟩
   have u:=pm.length_eq
   by_cases p:i=0
   . subst p
     simp only [BS,LB,Nat.reduceLT,Nat.reduceEqDiff,Int.reduceLT,zO,r1]
     exact⟨a,l',R,pm,up_done U (.inl rfl)⟩
   . have y:(0:Int)<(i:Int):=by omega
     have q:am .i64 ((i:Int)-1)=((i-1:Nat):Int):=by rw [wrap64]<;>omega
     have r:am .i64 (((i-1:Nat):Int).tdiv 4)=(((i-1)/4:Nat):Int):=by
      rw [XB (by omega),show(((i-1:Nat):Int)/4)=(((i-1)/4:Nat):Int) by omega,wrap64]<;>omega
     simp only [BS,LB,Nat.reduceLT,Nat.reduceEqDiff,r0,r1,y,q,r,mL (n:=4) (by decide)]
     refine al (zu a.ok R (i:=i) (k:=(i-1)/4) (by omega) (by omega)) ?_
     intro h g;replace R:=R.gr g;replace a:=a.trans (M':=NoM) g.fr (fun _ h=>h.elim);clear g
     by_cases m:hlt (l'.getD i default) (l'.getD ((i-1)/4) default)
     . simp only [BS,LB,Nat.reduceLT,Nat.reduceEqDiff,r0,r1,q,r,mL (n:=4) (by decide),m]
       refine step_ret (uv a.ok R (i:=i) (k:=(i-1)/4) (by omega) (by omega)) ?_
       rintro v h ⟨f,R⟩
       replace a:=a.trans f (fun _ h=>.inl h)
       simp only [BS,LB,Nat.reduceLT,Nat.reduceEqDiff,r1,q,r,mL (n:=4) (by decide)]
       exact x ((i-1)/4) _ _ (by omega) ⟨by omega,a,_,R,(tM l' (by omega) (by omega)).trans pm,up_step (by omega) U (by omega) m,by simp [aa,r0,ac],by simp [aa]⟩
     . simp only [BS,LB,Nat.reduceLT,Nat.reduceEqDiff,mL (n:=4) (by decide),m]
       exact⟨a,l',R,pm,up_done U (.inr (xf m))⟩
 . exact⟨s,Mo.refl w,l,R,.refl _,U,by simp [aG,ac],by simp [aG,bK]⟩
def Tryz.FW:=aj t1<|aj t2<|aj t3<|aj t4<|aj t213<|aj t214<|aj t320<|aj Z12<|aj Z16<|t344
def Tryz.Fj:=aj t1<|aj t2<|aj t3<|aj t4<|aj t5<|aj t6<|aj Z0<|aj Z2<|aj t9<|aj t12<|aj Z6<|aj t154<|aj t213<|aj t296<|aj t320<|aj Z12<|t344
theorem St.monoM{M:Nat->Prop}{c h:Hp}{L:List (Nat×Ob)}{G:List GL}(S:St NoM c h L G):St M c h L G:=
 ⟨S.fr.mono (fun _ h=>h.elim),fun p a=>⟨(S.own p a).1.imp (fun h=>h) (fun h=>h.elim),(S.own p a).2⟩,fun p a=>⟨(S.gown p a).1,fun b d=>((S.gown p a).2 b d).imp (fun h=>h) (fun h=>h.elim)⟩,S.apart⟩
theorem below_ok{a:Hp}(j:a.t.Sized a.n){g i:Nat}:Ret zB 237 [ptrTo g,.int .i64 i] a fun v f=>Gr a f/\ ∃b c,v=.func (.func 245) #[] #[ptrTo b,ptrTo c]/\a.n<=b/\a.n<=c/\f.load b 0 1=some [.int .i64 i]/\f.load c 0 1=some [ptrTo g]:=by
 have S:=Si j
 refine ab (n:=6) (rs:=[.tmp 4]) rfl Tryz.e237 rfl rfl rfl (lbt rfl) ?_
 simp only [BS,Nat.reduceLT]
 refine ag (da (by exact cP)) S ?_;clear S;intro h c S d
 simp only [BS,Nat.reduceLT,Nat.reduceEqDiff,if_false]
 refine ag (da (by exact cg)) S ?_;clear S;intro h b S e
 simp only [BS,LB,ae,Nat.reduceLT,Nat.reduceEqDiff]
 exact⟨S.gr,b,c,rfl,e,d,S.ld m0 rfl,S.ld m1 rfl⟩
theorem CM{d:Hp}(b:d.t.Sized d.n){f g o i n cap:Nat}{t:Addr}(k:d.load f 0 1=some [.int .i64 i])(u:d.load g 0 1=some [ptrTo o])(C:d.load o 0 1=some [.slice (some t) n cap])(L:n<1000000)(M:i<1000000):
 Iter zB 245 [] [ptrTo f,ptrTo g] d (fun c=>c=f\/c=g\/c=o) ((Xq (min 4 (n-(4*i+1)))).map fun j=>[.int .i64 ((4*i+1+j:Nat):Int)]):=by
 refine ue fun D J Z Y h F s p=>?_
 refine enter (n:=28) (rs:=[]) rfl Tryz.e245 rfl rfl rfl (lbt rfl) ?_
 have e:=s.load b k (.inl rfl)
 have q:am .i64 (4*(i:Int))=((4*i:Nat):Int):=by rw [wrap64]<;>omega
 have E:am .i64 (((4*i:Nat):Int)+1)=((4*i+1:Nat):Int):=by rw [wrap64]<;>omega
 have x:am .i64 (((4*i:Nat):Int)+4)=((4*i+4:Nat):Int):=by rw [wrap64]<;>omega
 simp only [BS,LB,Nat.reduceLT,Nat.reduceEqDiff,FW,e,q,E]
 refine az (fun(j:Nat) l h=>j<=min 4 (n-(4*i+1))/\ ∃F,ItS d (fun c=>c=f\/c=g\/c=o) h F/\J j h F/\l 0=.func (.yield D) #[] #[]/\l 1=ptrTo f/\l 2=ptrTo g/\l 4=.int .i64 ((4*i+1+j:Nat):Int)) (fun j=>min 4 (n-(4*i+1))-j) ?_ 0 _ _ ?_
 . clear e
   intro j G l h ⟨hjm,F,s,p,r0,r1,r2,r4⟩
   have e:=s.load b k (.inl rfl)
   have z:=s.load b u (.inr (.inl rfl))
   have A:=s.load b C (.inr (.inr rfl))
   by_cases hlt:j<min 4 (n-(4*i+1))
   . have r:((4*i+1+j:Nat):Int)<=((4*i+4:Nat):Int):=by omega
     have y:4*i+1+j<n:=by omega
     have w:am .i64 (((4*i+1+j:Nat):Int)+1)=((4*i+1+(j+1):Nat):Int):=by rw [wrap64]<;>omega
     simp only [BS,LB,Nat.reduceLT,Nat.reduceEqDiff,FW,r0,r1,r2,r4,e,z,A,q,x,r,y,an]
     refine gx Y s p (i:=j) (by rw [XR,Yf hlt];rfl) ?_ ?_ ?_
     . intro B H a I _ _
       simp only [BS,LB,Nat.reduceLT,Nat.reduceEqDiff,r4,w]
       exact G (j+1) _ _ (by omega) ⟨by omega,H,I,a,by simp [aa,r0],by simp [aa,r1,ac],by simp [aa,r2,ac],by simp [aa]⟩
     . intro B a _
       simp only [BS,LB,Nat.reduceLT,Nat.reduceEqDiff]
       exact iE rfl ⟨rfl,.inr (.inl ⟨_,rfl,a⟩)⟩
     . intro v B a
       simp only [BS]
       exact du (cL ⟨rfl,.inr (.inr ⟨_,rfl,a⟩)⟩)
   . have K:j=min 4 (n-(4*i+1)):=by omega
     have m:YQ J Z (min 4 (n-(4*i+1))) (.ret (ae [])) none h:=⟨rfl,.inl ⟨_,F,rfl,by rw [<-K];exact p⟩⟩
     by_cases r:((4*i+1+j:Nat):Int)<=((4*i+4:Nat):Int)
     . have y: ¬4*i+1+j<n:=by omega
       simp only [BS,LB,Nat.reduceLT,Nat.reduceEqDiff,FW,r1,r2,r4,e,z,A,q,x,r,y,an]
       exact di (cL ⟨rfl,_,rfl,by simpa using m⟩)
     . simp only [BS,LB,Nat.reduceLT,Nat.reduceEqDiff,FW,r1,r4,e,q,x,r]
       exact di (cL ⟨rfl,_,rfl,by simpa using m⟩)
 . exact⟨by omega,F,s,p,by simp [aa,cw],by simp [aa,cw,ac],by simp [aa,cw,ac],by simp [aa]⟩
theorem down_ok {z:Hp} (ok:z.t.Sized z.n) {u A C cap:Nat} {n:Int} {l:List Hd} (R:fP z u A C cap n l) {i:Nat} (E:i<l.length\/(l=[]/\i=0)) (hl:l.length<100000) (D:tW l i):
 Ret zB 222 [ptrTo u,.int .i64 i] z fun v K=>Mo (fun c=>c=A\/c=C) z K/\ ∃l',fP K u A C cap n l'/\l'.Perm l/\mJ l':=by
 have lt:=R.lt ok
 have S:=Si ok
 have O: ∀{L:List (Nat×Ob)},(∀c∈keys L [],z.n<=c)-> ∀c,c=u\/c=A\/c=C-> ¬c∈keys L []:=fun I c s hm=>by have:=lt c s;have:=I c hm;omega
 refine ab (n:=27) (rs:=[]) rfl Tryz.e222 rfl rfl rfl (lbt rfl) ?_
 simp only [BS,LB,Nat.reduceLT,Fj]
 refine ag av S ?_;clear S;intro h J S U
 simp only [BS,LB,Nat.reduceLT,Nat.reduceEqDiff]
 refine aw (ar S (i:=0) rfl ?_ ?_ ?_ ono) ?_
 . exact(by simp only [Fj])
 . exact(by exact ic)
 . exact Xp (lbt rfl)
 clear S;rintro h ⟨S,V⟩;clear V;simp only [LC,ah,lay,Xu,Xv,Nat.reduceAdd]at S
 simp only [BS]
 have RR:=R.gr S.gr
 replace S:=S.monoM (M:=fun c=>c=A\/c=C)
 refine qO (fun(i:Nat) ρ d h=> ∃(r:List Nat) (l':List Hd),d=r.map qN/\St (fun c=>c=A\/c=C) z h (dm r++[(J,.row [.func (.func 236) #[ptrTo u] #[]] 1)]) []/\(∀c∈keys (dm r++[(J,Ob.row [.func (.func 236) #[ptrTo u] #[]] 1)]) [],z.n<=c)/\
  fP h u A C cap n l'/\l'.Perm l/\tW l' i/\(i<l.length\/(l=[]/\i=0))/\ρ 0=ptrTo u/\ρ 1=.int .i64 i/\ρ 4=ptrTo J) (fun i=>l.length-i) ?_ i _ _ _ ?_
 . clear S RR R D E i
   intro i ih ρ d hS ⟨r,l',hd,S0,I,R,pm,D,E,r0,r1,r4⟩
   have a3:=pm.length_eq
   have ai:i<1000000:=by rcases E with E|⟨_,E⟩<;>omega
   have S:=S0.base
   have Rs:=R
   have n0:z.n<=hS.n:=S0.fr.n
   simp only [BS,Nat.reduceLT,Fj,r1]
   refine ag av S ?_;clear S;intro h w S W
   simp only [BS,LB,Nat.reduceLT,Nat.reduceEqDiff]
   refine aw (ar S (i:=0) rfl ?_ ?_ ?_ ono) ?_
   . exact(by simp only [Fj])
   . exact(by exact cg)
   . exact Xp (lbt rfl)
   clear S;rintro h ⟨S,V⟩;clear V;simp only [LC,ah,lay,Xu,Xv,Nat.reduceAdd]at S
   simp only [BS,LB,Nat.reduceLT,Nat.reduceEqDiff,r0,r1]
   have gq:=S.fr.n
   have a4:=S.key_lt (b:=w) (by simp [keys])
   refine step_ret (below_ok S.ok) ?_;intro v h ⟨g,b1,b2,e,n1,n2,q1,q2⟩;replace S:=S.call g;clear g
   subst e
   simp only [BS]
   replace R:=R.mo1 S.fr (O I)
   have gh:=S.fr.n
   refine jm S (g:=245) (a:=#[]) (b:=#[ptrTo b1,ptrTo b2]) (by simp [bZ,aa,ac]) rfl rfl ?_
   intro h2 G P Y a5 a6 g2
   have kb: ∀c∈keys (dm r++[(J,Ob.row [.func (.func 236) #[ptrTo u] #[]] 1)]) [],c<b1/\c<b2:=fun c s=>by have:=S0.key_lt s;have:=W;omega
   generalize hB:dm r++[(J,Ob.row [.func (.func 236) #[ptrTo u] #[]] 1)]=B at S Y S0 I kb
   have mf:(J,Ob.row [.func (.func 236) #[ptrTo u] #[]] 1)∈B:=by rw [<-hB];exact List.mem_append_right _ m0
   obtain⟨X,hX,Y⟩: ∃X:gm,X=_/\St (· ∈keys B []) hS h2 ((P,.loop X)::(G,.dfr)::(w,.row [.int .i64 (i:Nat)] 1)::B) []:=⟨_,rfl,Y⟩
   have R2:=R.gr g2
   have ch: ∀j,j<min 4 (l'.length-(4*i+1))->4*i+1+j<l'.length/\(4*i+1+j-1)/4=i:=fun j hj=>⟨by omega,by omega⟩
   have hY:Yld zB P (fun j K F=> ∃m:Nat,St (· ∈keys B []) hS K ((P,.loop X)::(G,.dfr)::(w,.row [.int .i64 (m:Nat)] 1)::B) []/\F=keys ((P,.loop X)::(G,.dfr)::(w,.row [.int .i64 (m:Nat)] 1)::B) []/\
    (m<l'.length\/(l'=[]/\m=i))/\hle (l'.getD m default) (l'.getD i default)/\(∀q,q<j->hle (l'.getD m default) (l'.getD (4*i+1+q) default))/\(m=i\/(0<m/\(m-1)/4=i/\hlt (l'.getD m default) (l'.getD i default)))) (fun _ _=>False) ((Xq (min 4 (l'.length-(4*i+1)))).map fun j=>[.int .i64 ((4*i+1+j:Nat):Int)]):=by
    refine⟨?_,?_,fun _ _ h=>h.elim,?_⟩
    . rintro j h F ⟨m,S,rfl,_⟩;exact⟨S.ok,fun b t=>S.key_lt t⟩
    . rintro j h F K ⟨m,S,rfl,k⟩ g;exact⟨m,S.call g,rfl,k⟩
    . rintro j x h F hx ⟨m,S,rfl,H,k2,Z,k4⟩
      have ad:j<min 4 (l'.length-(4*i+1)):=by
       have:=(List.getElem?_eq_some_iff.1 hx).1
       simpa using this
      rw [XR,Yf ad]at hx
      cases hx
      obtain⟨c1,c2⟩:=ch j ad
      replace H:=H.resolve_right (by intro e;rw [e.1]at c1;simp at c1)
      obtain⟨X0,ak⟩: ∃x,x=X:=⟨_,rfl⟩
      subst hX
      refine jn (S.get m0) (by rw [Tryz.e222];rfl) rfl ?_
      have S1:=S
      replace S:=S.base
      simp only [BS,LB,Nat.reduceLT,Nat.reduceEqDiff]
      refine iN S (i:=0) rfl rfl rfl rfl rfl ?_
      clear S;intro h S
      simp only [LC]at S
      have lf:h.load J 0 1=some [.func (.func 236) #[ptrTo u] #[]]:=S.ld (o:=0) (.tail _ (.tail _ (.tail _ mf))) rfl
      simp only [BS,LB,Nat.reduceLT,Nat.reduceEqDiff,Fj,r4,lf,S.ld (b:=w) (o:=0) m2 rfl]
      have aL: ∀c∈keys ((P,Ob.loop X0)::(G,.dfr)::(w,.row [.int .i64 (m:Nat)] 1)::B) [],z.n<=c:=fun c s=>(S1.key_own s).elim (fun h=>by omega) (fun h=>I c h)
      clear ak
      have Rc:fP h u A C cap n l':=(Rs.mo1 S1.fr (O I)).mo1 S.fr (O aL)
      refine al (zu S.ok Rc c1 H) ?_
      intro h g;replace S:=S.call g;clear g Rc lf
      by_cases Q:hlt (l'.getD (4*i+1+j) default) (l'.getD m default)
      . simp only [BS,LB,Nat.reduceLT,Nat.reduceEqDiff,Q]
        refine aw (ar S (i:=2) rfl ?_ ?_ ?_ ono) ?_
        . exact(by simp only [Fj])
        . exact(by exact cg)
        . exact Xp (lbt rfl)
        clear S;rintro h ⟨S,V⟩;clear V;simp only [LC,ah,lay,Xu,Xv,Nat.reduceAdd]at S
        simp only [BS]
        refine fk S (i:=0) rfl ?_
        clear S;intro h S
        simp only [LC]at S
        refine .inl ⟨rfl,_,⟨4*i+1+j,S1.rebase S,rfl,.inl c1,kf (sV Q) k2,fun q hq=>?_,.inr ⟨by omega,c2,?_⟩⟩,S.fr,S.key_new⟩
        . by_cases e:q=j
          . subst e;exact uL _
          . exact kf (sV Q) (Z q (by omega))
        . rcases k4 with rfl|⟨_,_,k4⟩
          . exact Q
          . unfold hlt at*;omega
      . simp only [BS,LB,Nat.reduceLT,Nat.reduceEqDiff,Q]
        refine fk S (i:=0) rfl ?_
        clear S;intro h S
        simp only [LC]at S
        refine .inl ⟨rfl,_,⟨m,S1.rebase S,rfl,.inl H,k2,fun q hq=>?_,k4⟩,S.fr,S.key_new⟩
        by_cases e:q=j
        . subst e;exact xf Q
        . exact Z q (by omega)
   refine eJ (Ac (CM S.ok q1 q2 (R.row.load1 (o:=0) rfl) (by omega) ai) hY (h:=h2) (F:=keys ((P,.loop X)::(G,.dfr)::(w,.row [.int .i64 (i:Nat)] 1)::B) []) g2.fr (fun b t hlt=>?_) ⟨i,Y,rfl,?_,uL _,fun q hq=>by omega,.inl rfl⟩) fun o rc K y=>lS y ?_
   . have e1:=Y.key_own t
     rintro(rfl|rfl|rfl)
     . rcases List.mem_cons.1 t with e|t
       . omega
       . rcases List.mem_cons.1 t with e|t
         . omega
         . rcases List.mem_cons.1 t with e|t
           . simp only []at e;omega
           . have:=(kb _ t).1;omega
     . rcases List.mem_cons.1 t with e|t
       . omega
       . rcases List.mem_cons.1 t with e|t
         . omega
         . rcases List.mem_cons.1 t with e|t
           . simp only []at e;omega
           . have:=(kb _ t).2;omega
     . have:=lt b (.inl rfl)
       rcases e1 with e1|e1
       . omega
       . have:=I b e1;omega
   . rcases E with E|⟨E,_⟩
     . exact .inl (by omega)
     . right;rw [E]at pm;exact⟨pm.eq_nil,rfl⟩
   . rintro F ⟨m,T,rfl,H,k2,Z,k4⟩
     rw [List.length_map,XS]at Z
     subst hX
     refine⟨_,T.get m0,Nat.zero_ne_one,?_⟩
     replace T:=T.dead
     show Run _ _ _ _ _ _ _ _
     have p:=T.ld (b:=w) (o:=0) m1 rfl
     have Rc:fP _ u A C cap n l':=Rs.mo1 T.fr (O I)
     have km: ∀q,0<q->q<l'.length->(q-1)/4=i->hle (l'.getD m default) (l'.getD q default):=fun q q0 ql qe=>by
      have:=Z (q-(4*i+1)) (by omega)
      rwa [show 4*i+1+(q-(4*i+1))=q by omega]at this
     have T0:=S0.rebase T
     have af: ∀c∈keys ((G,Ob.dfr)::(w,.row [.int .i64 (m:Nat)] 1)::B) [],z.n<=c:=fun c s=>(T.key_own s).elim (fun h=>by omega) (fun h=>I c h)
     subst hd hB
     have T2:=T0.sub (L':=dm (G::r)++[(J,Ob.row [.func (.func 236) #[ptrTo u] #[]] 1)]) (G':=[]) (List.Sublist.cons_cons _ (List.sublist_cons_self _ _)) (List.Sublist.refl _)
     have N: ∀c∈keys (dm (G::r)++[(J,Ob.row [.func (.func 236) #[ptrTo u] #[]] 1)]) [],z.n<=c:=fun c s=>af c (by simp only [keys,XL,XD,dm,Xm,XW,XE]at s⊢;rcases s with h|h;exact .inl h;exact .inr (.inr h))
     by_cases e:m=i
     . subst e
       simp only [BS,LB,Nat.reduceLT,Nat.reduceEqDiff,Fj,r1,p]
       have T3:=T2.base
       refine fH (fW (G::r) _ T3 fun K T4=>⟨rfl,_,rfl,?_⟩)
       refine⟨(T2.fr.trans T4.fr fun c s=>(T2.key_own s).symm),l',Rc.mo1 T4.fr (O N),pm,dn_done D km⟩
     . have e': ¬((m:Int)=(i:Int)):=by omega
       obtain⟨b0,be,a0⟩:=k4.resolve_left e
       replace H:=H.resolve_right (fun h=>e h.2)
       simp only [BS,LB,Nat.reduceLT,Nat.reduceEqDiff,Fj,r0,r1,p,e']
       refine step_ret (uv T2.ok Rc (i:=i) (k:=m) (by omega) H) ?_
       rintro v h ⟨f,Rn⟩
       have a1:=O N
       have T3:=T2.step f (fun c s=>.inl s) (fun c s hM=>a1 c (.inr hM) s)
       have f2:Mo (fun c=>c=A\/c=C) _ h:=f
       have a2:h.load w 0 1=some [.int .i64 (m:Nat)]:=by
        have a7:z.n<=w:=af w (.tail _ m0)
        have:=f.get w (bJ f.ok0 p) (fun hM=>by have:=lt w (.inr hM);omega)
        unfold Hp.load at p⊢
        rw [this];exact p
       simp only [BS,LB,Nat.reduceLT,Nat.reduceEqDiff,Fj,a2]
       exact ih m _ _ _ (by omega) ⟨G::r,_,rfl,T3,N,Rn,(tM l' (by omega) H).trans pm,dn_step D b0 H be a0 km,.inl (by omega),by simp [aa,r0,ac],by simp [aa],by simp [aa,r4,ac]⟩
 . exact⟨[],l,rfl,S,fun c s=>by simp [keys,dm]at s;subst s;exact U,RR,.refl _,D,E,by simp [aa,aG,ac],by simp [aa,aG,bK],by simp [aa,ac]⟩
end Go.Ab
end
section
namespace Go.Ab
theorem jX.push{f:Int->Option Value}{l:List Hd}(h:jX f l){x:Hd}(c:x.id∉l.map Hd.id):jX (dY f x.id (some (.int .i64 l.length))) (l++[x]):=by
 refine⟨fun i b=>?_,fun y v a=>?_⟩
 . unfold dY
   simp at b
   by_cases e:i=l.length
   . grind
   . rw [oq l _ (by omega),if_neg ?_]
     . exact h.1 i (by omega)
     grind
 . unfold dY at a
   by_cases e:y=x.id
   . refine⟨l.length,by simp,?_⟩
     grind
   . rw [if_neg e]at a
     obtain⟨i,b,d⟩:=h.2 y v a
     exact⟨i,by simp;omega,by grind⟩
theorem jX.cut{f:Int->Option Value}{l:List Hd}(h:jX f l){m:Nat}(c:l.length=m+1):jX (dY f (l.getD m default).id none) (l.take m):=by
 refine⟨fun i b=>?_,fun y v a=>?_⟩
 . rw [Xi]at b
   rw [getD_take l (by omega)]
   unfold dY
   rw [if_neg ?_]
   . exact h.1 i (by omega)
   . intro e
     have:=h.inj (i:=i) (j:=m) (by omega) (by omega) (by omega)
     omega
 . unfold dY at a
   by_cases e:y=(l.getD m default).id
   . grind
   . rw [if_neg e]at a
     obtain⟨i,b,d⟩:=h.2 y v a
     have:i≠m:=fun g=>by grind
     exact⟨i,by grind,by grind⟩
theorem jX.setKey{f:Int->Option Value}{l:List Hd}(h:jX f l){i:Nat}(k:Int):jX f (l.set i ⟨(l.getD i default).id,k⟩):=by
 have e: ∀j,((l.set i ⟨(l.getD i default).id,k⟩).getD j default).id=(l.getD j default).id:=fun j=>by
  grind
 refine⟨fun j a=>?_,fun y v b=>?_⟩
 . rw [e];exact h.1 j (by grind)
 . obtain⟨j,a,c⟩:=h.2 y v b
   grind
theorem idxF_nil:jX (fun _=>none) []:=⟨fun i a=>by simp at a,fun x v h=>by cases h⟩
theorem dV.take{cs:List Value}{cap:Nat}{l:List Hd}(c:dV cs cap l)(m:Nat):dV cs cap (l.take m):=
 ⟨c.len,Xc (by grind) c.le,fun i a=>by
  rw [Xi]at a
  rw [getD_take l (by omega)]
  exact c.at0 i (by omega)⟩
theorem dV.push{cs a:List Value}{cap cap':Nat}{l:List Hd}(c:dV cs cap l){x:Hd}(d:a.length=cap'*2)(g:l.length<cap')(b: ∀j,j<l.length*2->a[j]? =cs[j]?)(h:a[l.length*2]? =some (.int .i64 x.id)/\a[l.length*2+1]? =some (.int .i64 x.key)):dV a cap' (l++[x]):=by
 refine⟨d,by simp;omega,fun i f=>?_⟩
 simp at f
 by_cases e:i=l.length
 . grind
 . rw [oq l _ (by omega),b _ (by omega),b _ (by omega)]
   exact c.at0 i (by omega)
theorem slice_hi{E:Env}{t e:TypeId}{b k len cap n:Nat}{kd:IntKind}(c:E.und t=some (.slice e))(d:E.sz e=some k)(f:n<=cap):cJ E t (.slice (some ⟨b,0,some k⟩) len cap) none (some (.int kd (n:Int))) none=some (.slice (some ⟨b,0,some k⟩) n cap):=by
 have a: ∀n:Nat,fe (n:Int)=some n:=fun n=>rfl
 simp_all[cJ,dl,dL,Xb,cond_true,Xd,cond_false,Yn]
section
variable{M:Nat->Prop}{h0 h:Hp}{L:List (Nat×Ob)}{G:List GL}{E:Env}{t tx e:TypeId}{by_:Nat}{zs:List Value}
theorem St.appH{d cap:Nat}{cs:List Value}{l:List Hd}(S:St M h0 h ((d,.row cs 1)::L) G)(C:dV cs cap l)(H:E.und t=some (.slice e))(I:dK E e by_ 2 zs)(R:0<by_)(J:by_<=100)(r:dR E tx=some false){x:Hd}{z:Value}(f:aA h 2 z=some (1,kZ x))(U:l.length<1000000){ts:List TypeId}:
 ∃A w,dp E h (t::tx::ts) (.slice (some ⟨d,0,some 2⟩) l.length cap) z=some (A,w)/\ ∃a cap' g,w=.slice (some ⟨a,0,some 2⟩) (l.length+1) cap'/\St M h0 A ((a,.row g 1)::L) G/\dV g cap' (l++[x])/\(a=d\/h.n<=a):=by
 obtain⟨⟨i,K,rfl,c⟩,N,s⟩:=I
 have B:Row h d cs 1:=S.row m0
 have D:=C.len
 by_cases V:l.length+1<=cap
 . obtain⟨y,W,O⟩:=B.store S.ok ono (o:=l.length*2) (vs:=kZ x) (by rw [ku];omega) rfl
   refine⟨h.put d y,_,?_,d,cap,_,rfl,S.put (i:=0) rfl O,?_,.inl rfl⟩
   . simp_all[dp,jL,fG,Xb,cond_true,kZ,Xs]
   . refine C.push (by grind[pq,ku]) (by omega) (fun j P=>?_) ⟨?_,?_⟩
     . rw [jG (by rw [ku];omega),if_neg (by omega)]
     . rw [jG (by rw [ku];omega),if_pos ⟨Xj _,by rw [ku];omega⟩,Yo];rfl
     . rw [jG (by rw [ku];omega),if_pos ⟨by omega,by rw [ku];omega⟩,Nat.add_sub_cancel_left];rfl
 . have F:cap=l.length:=by have:=C.le;omega
   obtain⟨q,el,k,m,Q⟩:=B
   have u:jF q cs.length 0 (l.length*2) (kZ x)=some (q.pushAll cs.length (kZ x),cs.length+2):=by
    unfold jF
    rw [show l.length*2=cs.length by omega,Yl,Yl];rfl
   have T:=S.dead.new (x:=.cells (q.pushAll cs.length (kZ x)) (cs.length+2) e 1) (o:=.row (cs++kZ x) 1) (by
    refine⟨q.pushAll cs.length (kZ x),e,?_,?_,fun n=>?_⟩
    . rw [Hp.get_new _ _ S.dead.ok,if_pos rfl,Xt];rfl
    . rw [Xt];exact Tr.sized_pushAll _ m
    grind[Tr.get_pushAll])
   refine⟨_,.slice (some ⟨h.n,0,some 2⟩) (l.length+1) (l.length+1),?_,h.n,l.length+1,_,rfl,T,?_,.inr (Xj _)⟩
   . simp only [dp,r,jL,H,K,c,f]
     unfold fG
     have p:XJ (l.length+1) cap=false:=by
      cases r:XJ (l.length+1) cap with
      |false=>rfl
      |true=>exact absurd (lbt r) (by omega)
     rw [p]
     simp only [cond_false]
     have b:(XJ ((l.length+1)*(i.bytes+1)) 70368744177664&&XV 0 i.bytes)=true:=by
      have:(l.length+1)*(i.bytes+1)<=1000000*101:=X8 (by omega) (by omega)
      rw [Xb (by omega)]
      simp_all
     have v:XF zs.length i.size=true:=by rw [s,c];rfl
     rw [b,N]
     simp only [cond_true,v]
     unfold nV
     simp only [k,c,u]
     rfl
   . refine C.push (by rw [Xt,ku];omega) (by omega) (fun j P=>?_) ⟨?_,?_⟩
     . grind
     . rw [Xk (by omega),show l.length*2-cs.length=0 by omega];rfl
     . rw [Xk (by omega),show l.length*2+1-cs.length=1 by omega];rfl
theorem St.appH0(S:St M h0 h L G)(p:E.und t=some (.slice e))(q:dK E e by_ 2 zs)(v:0<by_)(r:by_<=100)(s:dR E tx=some false){x:Hd}{m:Value}(d:aA h 2 m=some (1,kZ x)){ts:List TypeId}:
 ∃n w,dp E h (t::tx::ts) (.slice none 0 0) m=some (n,w)/\ ∃b cap' f,w=.slice (some ⟨b,0,some 2⟩) 1 cap'/\St M h0 n ((b,.row f 1)::L) G/\dV f cap' [x]/\h.n<=b:=by
 obtain⟨⟨i,j,rfl,c⟩,u,k⟩:=q
 have T:=S.new (x:=.cells (Tr.ofList (kZ x)) 2 e 1) (o:=.row (kZ x) 1) (pQ S.ok (kZ x) e 1)
 refine⟨_,.slice (some ⟨h.n,0,some 2⟩) 1 1,?_,h.n,1,_,rfl,T,⟨rfl,by simp,fun i j=>?_⟩,Xj _⟩
 . simp only [dp,s,jL,p,j,c,d]
   unfold fG
   have g:XJ (0+1) 0=false:=rfl
   rw [g]
   simp only [cond_false]
   have a:(XJ ((0+1)*(i.bytes+1)) 70368744177664&&XV 0 i.bytes)=true:=by
    rw [Xb (by omega)]
    simp_all
   have l:XF zs.length i.size=true:=by rw [k,c];rfl
   rw [a,u]
   simp only [cond_true,l]
   unfold nV
   rw [show XF 0 0=true from rfl,c]
   rfl
 . have:i=0:=by simpa using j
   subst this;exact⟨rfl,rfl⟩
theorem St.rowS{i b d n cap c:Nat}{N:Int}{cs:List Value}{g:List (Value×Value×Nat)}{l:List Hd}{f:Int->Option Value}(S:St M h0 h [(b,.row cs 1),(i,.row [.slice (some ⟨b,0,some 2⟩) n cap,.map (some d),.int .i64 N] 1),(d,.map g c)] [])(C:dV cs cap l)(j:n=l.length)(k:dO g c f)(m:jX f l):fP h i b d cap N l:=by
 subst j
 have a:=S.apart
 simp only [keys,Xm,Yp,XL,XD,XC,XE,List.not_mem_nil,or_false,not_or]at a
 exact⟨S.row m1,⟨cs,g,c,f,S.row m0,(S.own _ m2).2,C,k,m⟩,fun e=>a.1.1 e.symm,a.2.1,a.1.2⟩
end
theorem vV{ρ:Operand->Value}{b:Bool}{t:TypeId}{a v:Operand}{h c:Hp}:cE ρ b (.store t a v) h c=(match ρ a with| .pointer (some a)=>some (.blk a.block)|_=>none):=by
 simp only [cE,dC,jE,eU,touch,cond_false]
 grind
theorem A2{ρ:Operand->Value}{b:Bool}{x:Operand}{ts:Array TypeId}{h c:Hp}:cE ρ b (.call ⟨.builtin .len,#[x],ts⟩) h c=(match ρ x with| .map (some r)=>some (.blk r)| .slice (some a) _ _=>some (.blk a.block)|_=>none):=by
 simp only [cE,dC,jE,eU,touch,cond_false]
 grind
theorem dn_del{E:Env}{cx:Cx}{Q:fi}{a:List Oper}{q:Nat}{ps:List (Nat×Nat)}{o:Oper}{os:List Oper}{i:Nat}{k:List Fr}{l:Loc}{d:Hp->List (Nat×Tch)}{h:Hp}{t:TypeId}{m c:Value}{P:Hp->Prop}(f: ∃b,mD E h t m c=some b/\P b)
 (g: ∀b,P b->Run E (lim E) cx Q (.opsD a q ps os (i+1) (d b)::k) .normal (l.put o.dst (.tuple #[])) b):DN E cx Q a q ps o os i k l d (delR E h t m c):=by
 obtain⟨b,e,j⟩:=f
 unfold delR
 rw [e]
 exact g b j
structure dS(h:Hp)(F:List Nat)(p:Value)(N:Nat)(K:Nat->Option Int):Prop where
 ex: ∃bh bm l,p=ptrTo bh/\mJ l/\iu l K/\(∀x∈l,x.id<N)/\
  ((l=[]/\F=[bh,bm]/\bh≠bm/\Row h bh [.slice none 0 0,.map (some bm),.int .i64 N] 1/\ ∃es c,h.get bm=some (.map es c)/\dO es c (fun _=>none))\/ ∃bl cap,F=[bh,bl,bm]/\fP h bh bl bm cap N l)
theorem dS.mo{M:Nat->Prop}{h i:Hp}{F:List Nat}{p:Value}{N:Nat}{K:Nat->Option Int}(a:dS h F p N K)(g:Mo M h i)(d: ∀b∈F,¬M b):dS i F p N K:=by
 obtain⟨m,n,l,e,q,r,s,t⟩:=a.ex
 refine⟨m,n,l,e,q,r,s,?_⟩
 rcases t with⟨u,rfl,v,w,j,c,x,y⟩|⟨z,f,rfl,k⟩
 . exact .inl ⟨u,rfl,v,g.has (o:=.row _ 1) w (d _ (by simp)),j,c,g.has (o:=.map j c) x (d _ (by simp)),y⟩
 . exact .inr ⟨z,f,rfl,k.mo g (d _ (by simp)) (d _ (by simp)) (d _ (by simp))⟩
theorem dS.gr{h b:Hp}{F:List Nat}{p:Value}{N:Nat}{K:Nat->Option Int}(a:dS h F p N K)(g:Gr h b):dS b F p N K:=a.mo (M:=NoM) g.fr (fun _ _ h=>h)
theorem dS.lt{h:Hp}(f:h.t.Sized h.n){F:List Nat}{p:Value}{N:Nat}{K:Nat->Option Int}(a:dS h F p N K): ∀b∈F,b<h.n:=by
 obtain⟨n,o,l,e,q,r,s,g⟩:=a.ex
 rcases g with⟨t,rfl,u,i,v,c,j,w⟩|⟨x,m,rfl,k⟩
 . intro b d
   simp at d
   rcases d with rfl|rfl
   . exact i.lt f
   . exact hZ f j
 . intro b d
   simp at d
   exact k.lt f b d
theorem vb{l:List Hd}{K:Nat->Option Int}(h:iu l K){N:Nat}(a: ∀x∈l,x.id<N):l.length<=N:=by
 have:=uM N (l.map Hd.id) h.1 (fun x b=>by grind)
 simpa using this
end Go.Ab

end
section
namespace Go.Ab
open Go.Proofs
set_option maxRecDepth 10000
def Tryz.F1s:=aj t1<|aj t3<|aj t213<|aj t274<|aj t320<|aj Z12<|aj Z19<|Z16
def Tryz.F1t:=aj t1<|aj t2<|aj t3<|aj t4<|aj t213<|aj t274<|aj t320<|aj Z12<|aj Z19<|Z16
def Tryz.F0H:=aj t1<|aj t2<|aj t3<|aj t4<|aj t5<|aj t6<|aj t213<|aj t274<|aj t320<|aj Z12<|aj Z19<|Z16
def Tryz.Fe:=aj t1<|aj t2<|aj t3<|aj t4<|aj t5<|aj t6<|aj Z0<|aj Z2<|aj t9<|aj t29<|aj t213<|aj t274<|aj t320<|aj Z12<|aj Z19<|Z16
def Tryz.F0I:=aj t1<|aj t2<|aj t3<|aj t4<|aj t5<|aj t6<|aj Z0<|aj Z2<|aj t9<|aj t10<|aj t11<|aj t12<|aj t29<|aj t213<|aj t274<|aj t320<|aj Z12<|aj Z19<|Z16
theorem Cq{a:Hp}(m:a.t.Sized a.n){N:Nat}:Ret zB 188 [.int .i64 N] a fun v g=>Gr a g/\ ∃F,dS g F v N (fun _=>none)/\ ∀b∈F,a.n<=b:=by
 have S:=Si m
 have o:max (N:Int) 0=(N:Int):=by omega
 refine ab (n:=9) (rs:=[.tmp 2]) rfl Tryz.e188 rfl rfl rfl (lbt rfl) ?_
 simp only [BS]
 refine ag tK S ?_;clear S;intro h i S d
 simp only [BS,LB,Nat.reduceLT,Nat.reduceEqDiff,Nat.reduceAdd,Nat.reduceLeDiff,F1s,o]
 refine ag (bU (by intro x e;cases e)) S ?_;clear S;intro h b S f;simp only [ah]at S
 simp only [BS,LB,ae,Nat.reduceLT,Nat.reduceEqDiff]
 have k:=S.apart
 simp only [keys,Xm,Yp,XL,XD,XC,XE,List.not_mem_nil,or_false]at k
 refine⟨S.gr,[b,i],⟨b,i,[],rfl,fun j _ p=>(by simp at p),cont_nil,fun x q=>(by cases q),.inl ⟨rfl,rfl,k.1,S.row m0,[],0,(S.own _ m1).2,uW⟩⟩,fun c l=>?_⟩
 simp at l
 rcases l with rfl|rfl
 . exact f
 . exact d
section
variable{h0:Hp}{F:List Nat}{p:Value}{N:Nat}{K:Nat->Option Int}
theorem xo(f:h0.t.Sized h0.n)(H:dS h0 F p N K): ∃m:Nat,bG zB 220 [p] h0 (.int .i64 m)/\(m=0↔ ∀v,K v=none):=by
 obtain⟨g,q,l,rfl,r,d,s,h⟩:=H.ex
 refine⟨l.length,?_,?_⟩
 . have S:=Si f
   obtain⟨a,n,c,m1,m2,b,i⟩: ∃a n c m1 m2,Row h0 g [.slice a n c,m1,m2] 1/\n=l.length:=by
    rcases h with⟨rfl,_,_,b,_⟩|⟨t,j,_,b⟩
    . exact⟨_,_,_,_,_,b,rfl⟩
    . exact⟨_,_,_,_,_,b.row,rfl⟩
   subst i
   have k:=b.load1 (o:=0) rfl
   refine ab (n:=11) (rs:=[.tmp 2]) rfl Tryz.e220 rfl rfl rfl (lbt rfl) ?_
   simp only [BS,LB,ae,Nat.reduceLT,Nat.reduceEqDiff,F1t,k]
   exact S.gr
 . constructor
   . intro e
     rw [List.length_eq_zero_iff.1 e]at d
     exact d.nil
   . intro e
     cases l with
     |nil=>rfl
     | cons x l=>
       have:=(d.2 x.id x.key).2 (by simp)
       rw [e]at this;cases this
theorem Co (y:h0.t.Sized h0.n) (H:dS h0 F p N K) {v:Nat}:bG zB 224 [p,.int .i64 v] h0 (.tuple #[.int .i64 ((K v).getD 0),.bool (K v).isSome]):=by
 have S:=Si y
 obtain⟨m,a,A⟩:=xo y H
 obtain⟨O,P,l,rfl,Q,r,T,I⟩:=H.ex
 by_cases b:m=0
 . subst b
   have e:=A.1 rfl v
   rw [e]
   refine ab (n:=32) (rs:=[.tmp 4,.tmp 5]) rfl Tryz.e224 rfl rfl rfl (lbt rfl) ?_
   simp only [BS,LB,Nat.reduceLT,Nat.reduceEqDiff]
   refine al (a) ?_;intro h g;replace S:=S.call g;clear g
   simp only [BS,LB,ae,Nat.reduceLT,Nat.reduceEqDiff,zO]
   exact⟨rfl,S.gr⟩
 . have d: ¬((m:Int)=0):=by omega
   rcases I with⟨rfl,_⟩|⟨U,J,_,R⟩
   . exact absurd (A.2 r.nil) b
   . refine ab (n:=32) (rs:=[.tmp 4,.tmp 5]) rfl Tryz.e224 rfl rfl rfl (lbt rfl) ?_
     simp only [BS,LB,Nat.reduceLT,Nat.reduceEqDiff]
     refine al (a) ?_;intro h g;replace S:=S.call g;replace R:=R.gr g;clear g
     obtain⟨V,W,c,f,s,t,C,L,B⟩:=R.ex
     have M:=R.row.load1 (o:=0) rfl
     have D:=R.row.load1 (o:=1) rfl
     have q:=rI (x:=(v:Int)) Tryz.t213.1 Tryz.t3.1 (z:=.int .i64 0) (by kernel_rfl) t L
     cases E:K v with
     | none=>
       have u:f v=none:=by
        cases hf:f v with
        |none=>rfl
        | some w=>
          obtain⟨i,j,e⟩:=B.2 v w hf
          have:=r.at j
          rw [show(l.getD i default).id=v by omega,E]at this;cases this
       rw [u]at q
       simp only [BS,LB,ae,Nat.reduceLT,Nat.reduceEqDiff,F0H,d,D,q,Xz,Xd]
       exact S.gr
     | some k=>
       obtain⟨i,j,e⟩:=r.idx E
       have u:f v=some (.int .i64 i):=by have:=B.1 i j;rwa [e]at this
       rw [u]at q
       have G:=C.ld1 s j
       rw [e]at G
       simp only [BS,LB,ae,Nat.reduceLT,Nat.reduceEqDiff,F0H,d,M,D,q,XA,j,G]
       exact S.gr
theorem uD(ok:h0.t.Sized h0.n)(H:dS h0 F p N K){v:Nat}(hv:v<N)(hN:N<=1000)(P:K v=none){k:Int}:
 Ret zB 191 [p,.int .i64 v,.int .i64 k] h0 fun r h'=>Mo (· ∈F) h0 h'/\ ∃F',dS h' F' p N (eQ K v (some k))/\ ∀b∈F',b∈F\/h0.n<=b:=by
 obtain⟨a,s,l,rfl,ho,m,hlt,D⟩:=H.ex
 have af:=vb m hlt
 have c1: ¬((v:Int)<0):=by omega
 have c2: ¬((N:Int)<=(v:Int)):=by omega
 have hn:=m.free P
 rcases D with⟨rfl,rfl,T,hr,U,c,g,E⟩|⟨G,u,rfl,R⟩
 . have S:=St.init2 (M:=(· ∈[a,s])) ok (o1:=.row _ 1) (o2:=.map U c) hr g T (by simp) (by simp)
   have Q:=rI (x:=(v:Int)) Tryz.t213.1 Tryz.t3.1 (z:=.int .i64 0) (by kernel_rfl) g E
   refine ab (n:=71) (rs:=[.tmp 6]) rfl Tryz.e191 rfl rfl rfl (lbt rfl) ?_
   simp only [BS,LB,Nat.reduceLT,Nat.reduceEqDiff,Fe,Q,c1,c2,Xz,Xd,S.ld (b:=a) (o:=1) m0 rfl,S.ld (b:=a) (o:=2) m0 rfl]
   refine au (ax rfl) (q:=0) (ps:=[]) (by kernel_rfl) ?_
   simp only [BS,LB,cls,Nat.reduceLT,Nat.reduceEqDiff,Nat.reduceAdd,Nat.reducePow,Nat.reduceDiv,Nat.reduceMod,Nat.reduceLeDiff,zO,Fe,S.ld (b:=a) (o:=0) m0 rfl,S.ld (b:=a) (o:=1) m0 rfl]
   refine d9 (S.mputI (i:=1) rfl Tryz.t213.1 Tryz.t3.1 E _) ?_
   clear S;rintro h ⟨_,V,c',y,S⟩
   simp only [LC]at S
   simp only [BS,LB,Nat.reduceLT,Nat.reduceEqDiff,Nat.reduceAdd,Fe,S.ld (b:=a) (o:=0) m0 rfl,S.ld (b:=a) (o:=1) m0 rfl]
   refine ag (bj (by exact Tryz.t320.1) (by exact Yc) (by decide) (by rfl)) S ?_;clear S;intro h I S J;simp only [LC,aU,bA,ah,Nat.reduceMul,Nat.reduceAdd,Xx,Xs,Xr,XK]at S
   simp only [BS,LB,Nat.reduceLT,Nat.reduceEqDiff,S.ld (b:=a) (o:=0) m1 rfl,S.ld (b:=a) (o:=1) m1 rfl]
   have j:aA h 2 (.slice (some ⟨I,0,none⟩) 1 1)=some (1,kZ ⟨v,k⟩):=by simp only [aA];rw [S.lds (b:=I) (o:=0) (n:=1*2) m0 (lbt rfl)];rfl
   replace S:=S.drop1
   refine dT (S.appH0 Tryz.t320.1 Yc (by decide) (by decide) Tryz.t320.2.2.2.2.2 j) ?_
   clear S j;rintro h w ⟨G,u,cs,rfl,S,C,W⟩
   simp only [BS,LB,Nat.reduceLT,Nat.reduceEqDiff,Fe]
   refine aw (ar S (i:=1) rfl ?_ ?_ ?_ ono) ?_
   . exact(by simp only [Fe])
   . exact(by exact cd)
   . exact Xp (lbt rfl)
   clear S;rintro h ⟨S,X⟩;clear X;simp only [LC,ah,lay,Xu,Xv,Nat.reduceAdd]at S
   simp only [BS]
   refine au (ax rfl) (q:=0) (ps:=[]) (by kernel_rfl) ?_
   simp only [BS,LB,cls,Nat.reduceLT,Nat.reduceEqDiff,Nat.reduceAdd,Nat.reducePow,Nat.reduceDiv,Nat.reduceMod,Nat.reduceLeDiff,Int.reduceSub,zO,Fe,S.ld (b:=a) (o:=0) m1 rfl,S.ld (b:=a) (o:=1) m1 rfl]
   have R:fP h a G s u N ([]++[⟨v,k⟩]):=S.rowS C rfl y (idxF_nil.push hn)
   have Y:am .i64 0=((0:Nat):Int):=rfl
   rw [Y]
   refine ce (up_ok S.ok R (i:=0) (by simp) (by simp) (yZ ho ⟨v,k⟩)) ?_
   have d:=(S.own _ m0).1
   rintro r h ⟨f,Z,R',L,A⟩
   simp only [BS,LB,Nat.reduceLT,Nat.reduceAdd,zO]
   refine⟨S.fr.trans f (fun c m=>?_),[a,G,s],⟨a,s,Z,rfl,A,(m.push P k).perm L,fun x D=>?_,.inr ⟨G,u,rfl,R'⟩⟩,fun b O=>?_⟩
   . rcases m with rfl|rfl
     . exact d.symm
     . exact .inl (by simp)
   . have:=L.mem_iff.1 D
     simp at this;subst this;exact hv
   . simp at O
     rcases O with rfl|rfl|rfl
     . exact .inl (by simp)
     . exact d.symm
     . exact .inl (by simp)
 . obtain⟨cs,U,c,f,ad,g,C,E,IF⟩:=R.ex
   have S:=St.init3 (M:=(· ∈[a,G,s])) ok (o1:=.row cs 1) (o2:=.row _ 1) (o3:=.map U c) ad R.row g R.ne.1.symm R.ne.2.2 R.ne.2.1 (by simp) (by simp) (by simp)
   have Q:=rI (x:=(v:Int)) Tryz.t213.1 Tryz.t3.1 (z:=.int .i64 0) (by kernel_rfl) g E
   have fv:f v=none:=by
    cases hf:f v with
    |none=>rfl
    | some w=>
      obtain⟨i,hi,e⟩:=IF.2 v w hf
      have:=m.at hi
      rw [show(l.getD i default).id=v by omega,P]at this;cases this
   rw [fv]at Q
   refine ab (n:=71) (rs:=[.tmp 6]) rfl Tryz.e191 rfl rfl rfl (lbt rfl) ?_
   simp only [BS,LB,Nat.reduceLT,Nat.reduceEqDiff,Fe,Q,c1,c2,Xz,Xd,S.ld (b:=a) (o:=1) m1 rfl,S.ld (b:=a) (o:=2) m1 rfl]
   refine au (ax rfl) (q:=0) (ps:=[]) (by kernel_rfl) ?_
   simp only [BS,LB,cls,Nat.reduceLT,Nat.reduceEqDiff,Nat.reduceAdd,Nat.reducePow,Nat.reduceDiv,Nat.reduceMod,Nat.reduceLeDiff,Fe,S.ld (b:=a) (o:=0) m1 rfl,S.ld (b:=a) (o:=1) m1 rfl]
   refine d9 (S.mputI (i:=2) rfl Tryz.t213.1 Tryz.t3.1 E _) ?_
   clear S;rintro h ⟨_,V,c',y,S⟩
   simp only [LC]at S
   simp only [BS,LB,Nat.reduceLT,Nat.reduceEqDiff,Nat.reduceAdd,Fe,S.ld (b:=a) (o:=0) m1 rfl,S.ld (b:=a) (o:=1) m1 rfl]
   refine ag (bj (by exact Tryz.t320.1) (by exact Yc) (by decide) (by rfl)) S ?_;clear S;intro h I S J;simp only [LC,aU,bA,ah,Nat.reduceMul,Nat.reduceAdd,Xx,Xs,Xr,XK]at S
   simp only [BS,LB,Nat.reduceLT,Nat.reduceEqDiff,S.ld (b:=a) (o:=0) m2 rfl,S.ld (b:=a) (o:=1) m2 rfl]
   have j:aA h 2 (.slice (some ⟨I,0,none⟩) 1 1)=some (1,kZ ⟨v,k⟩):=by simp only [aA];rw [S.lds (b:=I) (o:=0) (n:=1*2) m0 (lbt rfl)];rfl
   replace S:=S.drop1
   refine dT (S.appH C Tryz.t320.1 Yc (by decide) (by decide) Tryz.t320.2.2.2.2.2 j (by omega)) ?_
   clear S j;rintro h w ⟨B,t,ai,rfl,S,C',W⟩
   simp only [BS,LB,Nat.reduceLT,Nat.reduceEqDiff,Fe]
   refine aw (ar S (i:=1) rfl ?_ ?_ ?_ ono) ?_
   . exact(by simp only [Fe])
   . exact(by exact cd)
   . exact Xp (lbt rfl)
   clear S;rintro h ⟨S,X⟩;clear X;simp only [LC,ah,lay,Xu,Xv,Nat.reduceAdd]at S
   simp only [BS]
   refine au (ax rfl) (q:=0) (ps:=[]) (by kernel_rfl) ?_
   have Y:am .i64 (((l.length+1:Nat):Int)-1)=((l.length:Nat):Int):=by rw [wrap64]<;>omega
   simp only [BS,LB,cls,Nat.reduceLT,Nat.reduceEqDiff,Nat.reduceAdd,Nat.reducePow,Nat.reduceDiv,Nat.reduceMod,Nat.reduceLeDiff,Fe,Y,S.ld (b:=a) (o:=0) m1 rfl,S.ld (b:=a) (o:=1) m1 rfl]
   have R:fP h a B s t N (l++[⟨v,k⟩]):=S.rowS C' (by simp) y (IF.push hn)
   refine ce (up_ok S.ok R (i:=l.length) (by simp) (by simp;omega) (yZ ho ⟨v,k⟩)) ?_
   have d:=(S.own _ m0).1
   rintro r h ⟨f,Z,R',L,A⟩
   simp only [BS,LB,Nat.reduceLT,Nat.reduceAdd]
   refine⟨S.fr.trans f (fun c m=>?_),[a,B,s],⟨a,s,Z,rfl,A,(m.push P k).perm L,fun x D=>?_,.inr ⟨B,t,rfl,R'⟩⟩,fun b O=>?_⟩
   . rcases m with rfl|rfl
     . exact d.symm
     . exact .inl (by simp)
   . have:=L.mem_iff.1 D
     simp at this
     rcases this with h|rfl
     . exact hlt x h
     . exact hv
   . simp at O
     rcases O with rfl|rfl|rfl
     . exact .inl (by simp)
     . exact d.symm
     . exact .inl (by simp)
theorem AB(U:h0.t.Sized h0.n)(H:dS h0 F p N K){v:Nat}(hN:N<=1000){t k:Int}(V:K v=some t)(hle:k<=t):
 Ret zB 225 [p,.int .i64 v,.int .i64 k] h0 fun r G=>Mo (· ∈F) h0 G/\dS G F p N (eQ K v (some k)):=by
 obtain⟨d,w,l,rfl,W,g,hlt,y⟩:=H.ex
 have X:=vb g hlt
 obtain⟨i,a,u⟩:=g.idx V
 have Y:v<N:=by
  have:=hlt (l.getD i default) (by rw [XQ,XX a];exact XY a)
  rwa [u]at this
 have Z: ¬((v:Int)<0):=by omega
 have c2: ¬((N:Int)<=(v:Int)):=by omega
 have c3: ¬(t<k):=by omega
 rcases y with⟨rfl,_⟩|⟨A,j,rfl,R⟩
 . simp at a
 . obtain⟨I,es,c,f,m,q,C,J,L⟩:=R.ex
   have S:=St.init3 (M:=(· ∈[d,A,w])) U (o1:=.row I 1) (o2:=.row _ 1) (o3:=.map es c) m R.row q R.ne.1.symm R.ne.2.2 R.ne.2.1 (by simp) (by simp) (by simp)
   have O:=rI (x:=(v:Int)) Tryz.t213.1 Tryz.t3.1 (z:=.int .i64 0) (by kernel_rfl) q J
   have fv:f v=some (.int .i64 i):=by have:=L.1 i a;rwa [u]at this
   rw [fv]at O
   have P:=C.ld1 m a
   have Q:=C.len
   have ad:=C.le
   have ek:(l.getD i default).key=t:=by rw [u]
   have B:(l.getD i default).id=v:=by rw [u]
   rw [ek]at P
   refine ab (n:=61) (rs:=[.tmp 6]) rfl Tryz.e225 rfl rfl rfl (lbt rfl) ?_
   simp only [BS,LB,Nat.reduceLT,Nat.reduceEqDiff,F0I,O,Z,c2,c3,a,P,XA,S.ld (b:=d) (o:=0) m1 rfl,S.ld (b:=d) (o:=1) m1 rfl,S.ld (b:=d) (o:=2) m1 rfl]
   refine aw (S.store (i:=0) (off:=i*2+1) rfl Tryz.t2.2.2.1 (by intro x e;cases e) rfl rfl (by omega) ono) ?_
   clear S;rintro h ⟨S,_⟩
   simp only [LC,ah]at S
   have T:=C.setKey a k
   generalize lay I (i*2+1) _=af at S T
   simp only [BS,LB,Nat.reduceLT,Nat.reduceEqDiff,F0I,S.ld (b:=d) (o:=0) m1 rfl,S.ld (b:=d) (o:=1) m1 rfl]
   have R1:fP h d A w j N (l.set i ⟨(l.getD i default).id,k⟩):=S.rowS T (by rw [Xf]) J (L.setKey k)
   refine step_ret (up_ok S.ok R1 (i:=i) (by rw [Xf];exact a) (by rw [Xf];omega) (CC W (by unfold Ab.hle;simp only [];omega))) ?_
   rintro r h ⟨f,l',R',D,E⟩
   simp only [BS,Nat.reduceLT]
   have s:=g.lower a k
   rw [B]at s
   refine⟨S.fr.trans f (fun c g=>?_),⟨d,w,l',rfl,E,(by rw [B]at D;exact s.perm D),fun x y=>?_,.inr ⟨A,j,rfl,R'⟩⟩⟩
   . rcases g with rfl|rfl<;>exact .inl (by simp)
   . have:=D.mem_iff.1 y
     rcases List.mem_or_eq_of_mem_set this with h|rfl
     . exact hlt x h
     . rw [B];exact Y
end
end Go.Ab

end
section
namespace Go.Ab
open Go.Proofs
set_option maxRecDepth 10000
def Tryz.Ft:=aj t1<|aj t2<|aj t3<|aj t4<|aj t5<|aj t6<|aj Z0<|aj Z2<|aj t213<|aj t274<|aj t320<|aj Z12<|aj Z19<|Z16
section
variable{h0:Hp}{F:List Nat}{p:Value}{N:Nat}{K:Nat->Option Int}
theorem C0(ok:h0.t.Sized h0.n)(H:dS h0 F p N K)(hN:N<=1000):
 Ret zB 192 [p] h0 fun r h'=>(r=.tuple #[.int .i64 0,.int .i64 0,.bool false]/\(∀v,K v=none)/\Gr h0 h')\/ ∃v k,r=.tuple #[.int .i64 (v:Nat),.int .i64 k,.bool true]/\K v=some k/\(∀u k',K u=some k'->k<k'\/(k=k'/\v<=u))/\Mo (· ∈F) h0 h'/\dS h' F p N (eQ K v none):=by
 obtain⟨m,B,O⟩:=xo ok H
 obtain⟨d,D,l,rfl,ho,t,hlt,hx⟩:=H.ex
 have a2:=vb t hlt
 by_cases E:m=0
 . subst E
   have S:=Si ok
   refine ab (n:=55) (rs:=[.tmp 2,.tmp 3,.tmp 4]) rfl Tryz.e192 rfl rfl rfl (lbt rfl) ?_
   simp only [BS,LB,Nat.reduceLT,Nat.reduceEqDiff]
   refine al (B) ?_;intro h g;replace S:=S.call g;clear g
   simp only [BS,LB,ae,Nat.reduceLT,Nat.reduceEqDiff,zO]
   exact .inl ⟨O.1 rfl,S.gr⟩
 . have ad: ¬((m:Int)=0):=by omega
   rcases hx with⟨rfl,_⟩|⟨y,cap,rfl,R⟩
   . exact absurd (O.2 t.nil) E
   . have a:0<l.length:=by
      cases l with
      |nil=>exact absurd (O.2 t.nil) E
      |cons x l=>simp
     have S:=Si ok
     refine ab (n:=55) (rs:=[.tmp 2,.tmp 3,.tmp 4]) rfl Tryz.e192 rfl rfl rfl (lbt rfl) ?_
     simp only [BS,LB,Nat.reduceLT,Nat.reduceEqDiff]
     refine al (B) ?_;intro h g;replace S:=S.call g;replace R:=R.gr g;clear g
     have g0:=S.gr
     clear S
     obtain⟨cs,es,c,f,z,G,C,MI,IF⟩:=R.ex
     have r0:=R.row.load1 (o:=0) rfl
     have l2:=C.ld2 z a
     have S:=Si g0.ok
     have i0:iT (.int .i64 0) l.length=some 0:=fE (i:=0) a
     have w1:am .i64 ((l.length:Int)-1)=((l.length-1:Nat):Int):=by rw [wrap64]<;>omega
     simp only [BS,LB,Nat.reduceLT,Nat.reduceEqDiff,ad]
     refine au (yi (ord:=[14,0,1,2,3,4,5,6,7,8,9,10,11,12,13,15,16]) rfl rfl (by simp only [fg,reix,gk,List.getElem?_cons_zero,List.getElem?_cons_succ,List.map_toArray,Xm,Yp,Nat.reduceBEq,cond_true,cond_false];exact rfl)) (q:=1) (ps:=[(13,15),(12,15)]) (by kernel_rfl) ?_
     simp only [BS,LB,cls,Nat.reducePow,Nat.reduceDiv,Nat.reduceMod,Nat.reduceLeDiff,Ft]
     refine ec av S ?_;clear S;intro h s S a0 a1
     simp only [BS,LB,cls,Nat.reduceLT,Nat.reduceEqDiff,Nat.reduceAdd,Nat.reducePow,Nat.reduceDiv,Nat.reduceMod,Nat.reduceLeDiff,Ft,S.old r0 (fun h=>h),S.old l2 (fun h=>h),i0,w1]
     refine d9 (S.store (i:=0) rfl ?_ ?_ rfl rfl ?_ ono) ?_
     . exact(by exact Tryz.t322.2.1)
     . exact(by intro x e;cases e)
     . exact lbt rfl
     clear S;rintro h ⟨S,mo⟩;clear mo;simp only [LC,ah,lay,Xu,Xv,Nat.reduceAdd]at S
     simp only [BS,LB,cls,Nat.reduceLT,Nat.reduceEqDiff,Nat.reduceAdd,Nat.reducePow,Nat.reduceDiv,Nat.reduceMod,Nat.reduceLeDiff,Ft,S.old r0 (fun h=>h),S.old l2 (fun h=>h)]
     have g1:=S.gr
     have R1:=R.gr g1
     have Y:=S.lds (b:=s) (o:=0) (n:=2) m0 (lbt rfl)
     have A:=R.lt g0.ok
     have nb:s≠d:=fun e=>by have:=A d (.inl rfl);omega
     have P:s≠y:=fun e=>by have:=A y (.inr (.inl rfl));omega
     refine⟨by simp only [aX,bo,aS,bD,aV,ne_eq,not_false_eq_true,bC,bR,aZ,aW,bZ,cu,aT,Nat.reduceLT,Nat.reduceEqDiff,reduceIte,XP,ac,vV,A2,ja nb,ja nb.symm,ja P,ja P.symm],?_⟩
     have sw:Ret zB 221 [ptrTo d,.int .i64 0,.int .i64 ((l.length-1:Nat):Int)] _ _:=uv S.ok R1 (i:=0) (k:=l.length-1) a (by omega)
     refine step_ret sw ?_
     --refine step_ret (uv S.ok R1 (i := 0) (k := l.length - 1) a (by omega)) ?_
     rintro r I ⟨Z,L⟩
     have gg:Gr h0 h:=g0.trans g1
     have mA:Mo (· ∈[d,y,D]) h0 I:=(gg.fr (M:=(· ∈[d,y,D]))).trans Z (fun c t=>.inl (by rcases t with rfl|rfl<;>simp))
     have J:I.load s 0 2=some [.int .i64 (l.getD 0 default).id,.int .i64 (l.getD 0 default).key]:=by
      have:=Z.get s (bJ Z.ok0 Y) (fun hM=>by have:=A s (.inr hM);omega)
      unfold Hp.load at Y⊢
      rw [this];exact Y
     have a3:=L.lt mA.ok
     have af:=mA.ok
     have Q:=bJ mA.ok J
     clear S R R1 Z sw z G C MI IF Y l2 r0
     obtain⟨cs,es,c,f,z,G,C,MI,IF⟩:=L.ex
     have S:=St.init3 (M:=(· ∈[d,y,D])) (h:=I) af (o1:=.row cs 1) (o2:=.row _ 1) (o3:=.map es c) z L.row G L.ne.1.symm L.ne.2.2 L.ne.2.1 (by simp) (by simp) (by simp)
     have sl:=slice_hi (kd:=.i64) (b:=y) (len:=(sw l 0 (l.length-1)).length) (n:=l.length-1) Tryz.t320.1 Tryz.t328.2.1 (cap:=cap) (by have:=C.le;rw [ik]at this;omega)
     simp only [BS,LB,Nat.reduceLT,Nat.reduceEqDiff,XH,X3,Ft,sl,S.ld (b:=d) (o:=0) m1 rfl,S.ld (b:=d) (o:=1) m1 rfl]
     refine aw (ar S (i:=1) rfl ?_ ?_ ?_ ono) ?_
     . exact(by simp only [Ft])
     . exact(by exact cd)
     . exact Xp (lbt rfl)
     clear S;rintro h ⟨S,mo⟩;clear mo;simp only [LC,ah,lay,Xu,Xv,Nat.reduceAdd]at S
     simp only [BS,S.ld (b:=d) (o:=0) m1 rfl,S.ld (b:=d) (o:=1) m1 rfl]
     refine au (ax rfl) (q:=0) (ps:=[]) (by kernel_rfl) ?_
     have T: ¬s∈[d,y,D]:=fun O=>by
      have:=A s (by simpa using O)
      omega
     have U:I.load s 0 1=some [.int .i64 (l.getD 0 default).id]:=by have:=gP J (i:=0) (m:=1) (by omega);simpa using this
     have ai:I.load s 1 1=some [.int .i64 (l.getD 0 default).key]:=by have:=gP J (i:=1) (m:=1) (by omega);simpa using this
     simp only [BS,LB,cls,Nat.reduceLT,Nat.reduceEqDiff,Nat.reduceAdd,Nat.reducePow,Nat.reduceDiv,Nat.reduceMod,Nat.reduceLeDiff,Ft,S.old U T,S.ld (b:=d) (o:=1) m1 rfl]
     refine dn_del (S.mdelI (i:=2) rfl Tryz.t213.1 Tryz.t3.1 MI) ?_
     clear S;rintro h ⟨_,a4,c',ak,S⟩
     simp only [LC]at S
     simp only [BS,LB,Nat.reduceLT,Nat.reduceEqDiff,Nat.reduceAdd,Ft]
     have V:(sw l 0 (l.length-1)).length=l.length:=ik _ _ _
     have w:=iW l (i:=0) (k:=l.length-1) a (by omega) (l.length-1)
     rw [if_pos rfl]at w
     have W:=IF.cut (m:=l.length-1) (by omega)
     rw [w]at W
     have tl:((sw l 0 (l.length-1)).take (l.length-1)).length=l.length-1:=by rw [Xi,V];omega
     have R3:fP h d y D cap N ((sw l 0 (l.length-1)).take (l.length-1)):=S.rowS (C.take _) tl.symm ak W
     have dn:Ret zB 222 [ptrTo d,.int .i64 0] h _:=down_ok S.ok R3 (i:=0) (by
      by_cases e:l.length-1=0
      . exact .inr ⟨List.length_eq_zero_iff.1 (by rw [tl,e]),rfl⟩
      . exact .inl (by omega)) (by omega) (heap_pop ho a)
     refine step_ret dn ?_
     rintro r h ⟨fB,l',R',pm,aL⟩
     have mB:Mo (· ∈[d,y,D]) I h:=S.fr.trans fB (fun c t=>.inl (by rcases t with rfl|rfl<;>simp))
     have X: ∀{o x},I.load s o 1=some x->h.load s o 1=some x:=fun e=>by
      have:=mB.get s Q T
      unfold Hp.load at e⊢
      rw [this];exact e
     simp only [BS]
     refine au (ax rfl) (q:=0) (ps:=[]) (by kernel_rfl) ?_
     simp only [BS,LB,cls,ae,Nat.reduceLT,Nat.reduceEqDiff,Nat.reduceAdd,Nat.reducePow,Nat.reduceDiv,Nat.reduceMod,Nat.reduceLeDiff,Ft,X U,X ai]
     refine .inr ⟨(l.getD 0 default).id,(l.getD 0 default).key,rfl,t.at a,fun u k' hu=>?_,mA.trans mB (fun c t=>.inl t),⟨d,D,l',rfl,aL,(t.pop a).perm pm,fun x hx=>?_,.inr ⟨y,cap,rfl,R'⟩⟩⟩
     . obtain⟨j,hj,e⟩:=t.idx hu
       have:=heap_min ho j hj
       rw [e]at this
       unfold Ab.hle at this
       simp only []at this
       omega
     . exact hlt x ((tM l a (by omega)).mem_iff.1 (List.mem_of_mem_take (pm.mem_iff.1 hx)))
end
end Go.Ab

end
section
namespace Go.Ab
def rG(E:Env)(g:FuncId)(a post:List Value)(c:Hp)(D:Nat->Prop)(xs:List (List Value)):Prop:=
 ∀b J Z,(∀v h,¬Z (.pan v) h)->Yld E b J Z xs-> ∀h F,ItS c D h F->J 0 h F->dQ E g (a++[.func (.yield b) #[] #[]]++post) none h (YQ J Z xs.length)
theorem iter_useN{E:Env}{g:FuncId}{a post:List Value}{c:Hp}{D:Nat->Prop}{xs:List (List Value)}(H:rG E g a post c D xs){d:Nat}{J:Nat->Hp->List Nat->Prop}{Z:Out->Hp->Prop}(j: ∀v h,¬Z (.pan v) h)(Y:Yld E d J Z xs)
 {h:Hp} {F:List Nat} (e:Mo (fun b=> ¬D b) c h) (k: ∀b∈F,b<c.n-> ¬D b) (i:J 0 h F):dQ E g (a++[.func (.yield d) #[] #[]]++post) none h (YQ J Z xs.length):=
 H d J Z j Y h F ⟨e.ok,e.n,fun b f l=>e.get b f (fun m=>m l),fun b f h=>k b f h.1 h.2,(Y.lt 0 h F i).2⟩ i
theorem dn_yield{E:Env}{cx:Cx}{Q:fi}{a:List Oper}{q:Nat}{ps:List (Nat×Nat)}{o:Oper}{os:List Oper}{i:Nat}{k:List Fr}{l:Loc}{e:Hp->List (Nat×Tch)}{f h:Hp}{D:Nat->Prop}{g j:Nat}{J:Nat->Hp->List Nat->Prop}{Z:Out->Hp->Prop}{xs:List (List Value)}{x:List Value}{F:List Nat}
 (w: ∀v h,¬Z (.pan v) h) (Y:Yld E g J Z xs) (s:ItS f D h F) (m:J j h F) (n:xs[j]? =some x)
 (p: ∀d F',J (j+1) d F'->ItS f D d F'->Mo (· ∈F) h d->(∀b∈F',b∈F\/h.n<=b)->Run E (lim E) cx Q (.opsD a q ps os (i+1) (e d)::k) .normal (l.put o.dst (.bool true)) d)
 (k2: ∀d,Z (.ret (.bool false)) d->d.t.Sized d.n->Run E (lim E) cx Q (.opsD a q ps os (i+1) (e d)::k) .normal (l.put o.dst (.bool false)) d):DN E cx Q a q ps o os i k l e (some (.yield g x,h)):=by
 obtain⟨r,d,t,u⟩:=Y.round j x h F n m
 refine⟨r,d,t,?_⟩
 rcases u with⟨rfl,F',a,b,c⟩|⟨rfl,a,b⟩|⟨⟨v,rfl⟩,a⟩
 . exact p d F' a (s.mo b c (Y.lt _ _ _ a).2) b c
 . exact k2 d a b
 grind
def fq(h a:Hp):Prop:= ∀b,b<h.n->a.get b=h.get b
theorem fq.load{h a:Hp}(c:h.t.Sized h.n)(g:fq h a){b o n:Nat}{l:List Value}(e:h.load b o n=some l):a.load b o n=some l:=by
 have:=g b (bJ c e)
 grind[Hp.load]
theorem fq.row{h a:Hp}(c:h.t.Sized h.n)(g:fq h a){b:Nat}{l:List Value}{md:Nat}(r:Row h b l md):Row a b l md:=Row.of_get (g b (r.lt c)) r
theorem ay.keep{a:Type}{h d:Hp}{k:Nat}{enc:a->List Value}{v:Value}{xs:List a}(e:h.t.Sized h.n)(g:fq h d)(s:ay h k enc v xs):ay d k enc v xs:=by
 rcases s with s|⟨b,o,s,c,f,i,j⟩
 . exact .inl s
 . exact .inr ⟨b,o,s,c,f,i,g.load e j⟩
theorem gU.keep{h d:Hp}{v:Value}{m N:Nat}{R:Nat->List Nat}(e:h.t.Sized h.n)(g:fq h d)(r:gU h m v N R):gU d m v N R:=by
 obtain⟨f,j,k,l,n,o,p⟩:=r
 exact⟨f,j,k,l,g.row e n,o,fun i q=>by
  obtain⟨w,a,b,c⟩:=p i q
  exact⟨w,a,b.keep e g,c⟩⟩
theorem bW.keep{h d:Hp}{m:Nat}{p:Value}{e:Gra}(a:h.t.Sized h.n)(g:fq h d)(n:bW h m p e):bW d m p e:=by
 obtain⟨b,f,i,j,k,l,o,q,c,r,s,t,u⟩:=n.ex
 exact⟨b,f,i,j,k,l,o,g.row a q,⟨c.X.keep a g,c.Y.keep a g,c.A.keep a g⟩,r.keep a g,s.keep a g,t,u⟩
theorem Gr.keep{h a:Hp}(g:Gr h a):fq h a:=g.get
theorem fq.trans{a b c:Hp}(x:fq a b)(n:a.n<=b.n)(y:fq b c):fq a c:=fun i d=>(y i (XM d n)).trans (x i d)
theorem ItS.keep{hq a h:Hp}{D:Nat->Prop}{F:List Nat}(s:ItS a D h F)(g:fq hq a)(n:hq.n<=a.n)(e: ∀c,c<hq.n->D c):fq hq h:=fun b d=>(s.data b (XM d n) (e b d)).trans (g b d)
theorem xi{n:Int}(a:0<=n)(b:n<18446744073709551616):am .u64 n=n:=by
 obtain⟨m,rfl⟩:=Int.eq_ofNat_of_zero_le a
 grind[am,hf,sgn,pw,XV,XU]
theorem b_andU{E:Env}{t:TypeId}{x y:Operand}{N:Nat}(h:N<4294967296):a9 E .and t x y (.int .u64 (N:Int)) (.int .u64 4294967295)=some (.int .u64 (N:Int)):=by
 have a:XV N 18446744073709551616=true:=by rw [XU];omega
 have b:Yd N 4294967295=N:=by
  have:=Nat.and_two_pow_sub_one_eq_mod N 32
  simp_all
 have c:=xi (n:=(N:Int)) (by omega) (by omega)
 have d:iz .and .u64 (.ofNat N) (.ofNat 4294967295)=some (am .u64 (.ofNat (Yd N 4294967295))):=by
  simp only [iz,pw]
  rw [a];rfl
 show(iz .and .u64 (.ofNat N) (.ofNat 4294967295)).map _=_
 grind
theorem b_shrU{E:Env}{t:TypeId}{x y:Operand}{kd:IntKind}{N:Nat}(h:N<4294967296):a9 E .shr t x y (.int .u64 (N:Int)) (.int kd 32)=some (.int .u64 0):=by
 have e:N/Nat.pow 2 (bif XJ 32 (bitsOf .u64)then 32 else bitsOf .u64)=0:=by
  show N/4294967296=0
  omega
 show(mH .shr .u64 (.ofNat N) (.ofNat 32)).map _=_
 show some (Value.int .u64 (.ofNat (N/Nat.pow 2 (bif XJ 32 (bitsOf .u64)then 32 else bitsOf .u64))))=_
 rw [e];rfl
end Go.Ab

end
section
namespace Go.Ab
open Go.Proofs
set_option maxRecDepth 10000
def Tryz.F0J:=aj t1<|aj t2<|aj t3<|aj t4<|t38
def Tryz.F1u:=aj t1<|aj t2<|aj t3<|aj t4<|aj t23<|aj t35<|aj Z1<|aj t38<|aj t67<|aj Z4<|aj t162<|Z3
def Tryz.F0K:=aj t1<|aj t2<|aj t3<|aj t4<|aj t35<|Z4
def Tryz.F1v:=aj t1<|aj t2<|aj t3<|aj t4<|aj t38<|t162
def Tryz.F0L:=aj t1<|aj t2<|aj t3<|aj t4<|aj t23<|aj t35<|aj Z1<|aj t38<|aj t67<|aj Z4<|aj t162<|Z3
def Tryz.F1w:=aj t1<|aj t2<|aj t3<|aj t4<|aj t23<|aj t35<|aj Z1<|aj t38<|aj t67<|aj t162<|Z3
def Tryz.F1x:=aj t1<|aj t2<|aj t3<|aj t4<|aj t23<|aj t35<|aj Z1<|aj t38<|aj t67<|aj t162<|Z3
theorem g9{a:Hp}(k:a.t.Sized a.n){i:Type}{enc:i->List Value}(l: ∀x,(enc x).length=1){v:Value}{xs:List i}(m:ay a 1 enc v xs)(w:xs.length<1000000):Ret zB 68 [v] a fun r d=>Gr a d/\ay d 1 enc r xs/\ ∀c,aq r c->a.n<=c:=by
 have S:=Si k
 rcases m with⟨rfl,rfl⟩|⟨b,o,s,c,rfl,p,q⟩
 . refine ab (n:=8) (rs:=[.tmp 2]) rfl Tryz.e68 rfl rfl rfl (lbt rfl) ?_
   simp only [BS,LB,ae,Nat.reduceLT,Nat.reduceEqDiff,F0J]
   exact⟨S.gr,.inl ⟨rfl,rfl⟩,fun c f=>f.elim⟩
 . refine ab (n:=8) (rs:=[.tmp 2]) rfl Tryz.e68 rfl rfl rfl (lbt rfl) ?_
   simp only [BS,LB,Nat.reduceLT,Nat.reduceEqDiff,F0J]
   refine ag (bj (by exact Tryz.t38.1) (by exact Yr) (by decide) (by rfl)) S ?_;clear S;intro h y S j;simp only [LC,aU,bA,ah,Nat.reduceMul,Nat.reduceAdd,Xx,Xs,Xr,XK]at S
   simp only [BS,LB,Nat.reduceLT,Nat.reduceEqDiff]
   refine dT (S.cloneSl (enc:=enc) (xs:=[]) Tryz.t38.1 Yr (by decide) Tryz.t38.2.2.2.2.2 (.inr ⟨b,o,s,c,rfl,p,S.old q (fun h=>h)⟩) l (by decide) (by simp only [List.length_nil,Xs];omega) (S.row m0)) ?_
   rintro d v ⟨t,g,u,f⟩
   simp only [BS,LB,ae,Nat.reduceLT,Nat.reduceEqDiff]
   refine⟨t.gr,by simpa using u,fun c h=>(f c h).elim (fun e=>by omega) (fun e=>Xc S.fr.n e)⟩
theorem cK{a:Hp}(e:a.t.Sized a.n){p:Value}{d:Gra}{f:Nat}(c:bW a f p d):bG zB 47 [p] a (.int .i64 d.nodes):=by
 have S:=Si e
 obtain⟨b,h,i,j,k,l,rfl,r,_⟩:=c.ex
 have g:=r.load1 (o:=0) rfl
 refine ab (n:=10) (rs:=[.tmp 2]) rfl Tryz.e47 rfl rfl rfl (lbt rfl) ?_
 simp only [BS,LB,ae,Nat.reduceLT,Nat.reduceEqDiff,F1u,g]
 exact S.gr
theorem oneArc_ok{a:Hp}(k:a.t.Sized a.n){v:Value}{A:List Arc}(g:ay a 3 cD v A){i:Nat}(l:i<A.length):Ret zB 226 [v,.int .i64 i] a fun r m=>Gr a m/\r=.tuple #[.agg ⟨cD A[i]⟩,.bool true]:=by
 have S:=Si k
 have p: ¬((i:Int)<0):=by omega
 have q: ¬((A.length:Int)<=(i:Int)):=by omega
 refine ab (n:=19) (rs:=[.cell 4 90,.tmp 5]) rfl Tryz.e226 rfl rfl rfl (lbt rfl) ?_
 simp only [BS,F0K]
 refine ag av S ?_;clear S;intro h s S j
 obtain⟨c,o,d,f⟩:=(g.gr S.gr).ix (kd:=.i64) eo l
 simp only [BS,LB,Nat.reduceLT,Nat.reduceEqDiff,F0K,g.lenq,p,q,d,f]
 refine aw (S.store (i:=0) rfl ?_ ?_ rfl rfl ?_ ono) ?_
 . exact(by exact Tryz.t90.2.1)
 . exact(by intro x e;cases e)
 . exact lbt rfl
 clear S;rintro h ⟨S,t⟩;clear t;simp only [LC,ah,lay,Xu,Xv,Nat.reduceAdd]at S
 simp only [BS,ae,cD]
 refine(gf (by decide) (by simp only [aT,ac,Nat.reduceEqDiff,reduceIte];exact gu Tryz.t90.1 Tryz.t90.2.1 (S.lds (b:=s) (o:=0) (n:=3) m0 (lbt rfl)))).2 ?_
 refine(rm (by decide)).2 (ib.2 ?_)
 exact⟨S.gr,rfl⟩
theorem xX{a:Hp}(f:a.t.Sized a.n){m:Nat}{v:Value}{N:Nat}{R:Nat->List Nat}(g:gU a m v N R){i:Nat}(b:i<N):Ret zB 195 [v,.int .i64 i] a fun r c=>Gr a c/\ ∃w,r=.tuple #[w,.bool true]/\ay c 1 eO w (R i):=by
 have S:=Si f
 obtain⟨q,s,rfl,_,h,d,j⟩:=g
 obtain⟨w,e,k,_⟩:=j i b
 have l:=h.load1 e
 have o: ¬((i:Int)<0):=by omega
 have p: ¬((N:Int)<=(i:Int)):=by omega
 refine ab (n:=19) (rs:=[.tmp 4,.tmp 5]) rfl Tryz.e195 rfl rfl rfl (lbt rfl) ?_
 simp only [BS,LB,ae,Nat.reduceLT,Nat.reduceEqDiff,F1v,o,p,b,l]
 exact⟨S.gr,_,rfl,k⟩
theorem qM{a:Hp}(j:a.t.Sized a.n){p:Value}{d:Gra}{k:Nat}(c:bW a k p d){i:Nat}(l:i<d.arcs.length):Ret zB 197 [p,.int .i64 i] a fun r m=>Gr a m/\r=.tuple #[.agg ⟨cD d.arcs[i]⟩,.bool true]:=by
 have S:=Si j
 obtain⟨b,w,y,z,A,B,rfl,r,q,_⟩:=c.ex
 have s:=r.load1 (o:=3) rfl
 refine ab (n:=18) (rs:=[.cell 4 90,.tmp 5]) rfl Tryz.e197 rfl rfl rfl (lbt rfl) ?_
 simp only [BS,F0L]
 refine ag av S ?_;clear S;intro h t S f
 simp only [BS,LB,Nat.reduceLT,Nat.reduceEqDiff,F0L,S.old s (fun h=>h)]
 refine step_ret (oneArc_ok S.ok (q.A.gr S.gr) l) ?_
 rintro v h ⟨g,rfl⟩
 replace S:=S.call g;clear g
 simp only [BS,LB,Nat.reduceLT,Nat.reduceEqDiff,cD]
 refine aw (S.store (i:=0) rfl ?_ ?_ rfl rfl ?_ ono) ?_
 . exact(by exact Tryz.t90.2.1)
 . exact(by intro x e;cases e)
 . exact lbt rfl
 clear S;rintro h ⟨S,u⟩;clear u;simp only [LC,ah,lay,Xu,Xv,Nat.reduceAdd]at S
 simp only [BS,LB,ae,Nat.reduceLT,Nat.reduceEqDiff]
 refine(gf (by decide) (by simp only [aT,ac,Nat.reduceEqDiff,reduceIte];exact gu Tryz.t90.1 Tryz.t90.2.1 (S.lds (b:=t) (o:=0) (n:=3) m0 (lbt rfl)))).2 ?_
 refine(rm (by decide)).2 (ib.2 ?_)
 exact⟨S.gr,rfl⟩
theorem netOut_ok{d:Hp}(j:d.t.Sized d.n){p:Value}{a:Gra}{k:Nat}(c:bW d k p a)(l:a.arcs.length<1000){i:Nat}(m:i<a.nodes):Ret zB 141 [p,.int .i64 i] d fun r f=>Gr d f/\ay f 1 eO r (outs a.arcs Arc.s a.arcs.length i)/\ ∀c,aq r c->d.n<=c:=by
 have S:=Si j
 obtain⟨b,x,y,z,A,B,rfl,r,C,q,D,_⟩:=c.ex
 have s:=r.load1 (o:=4) rfl
 refine ab (n:=20) (rs:=[.tmp 4]) rfl Tryz.e141 rfl rfl rfl (lbt rfl) ?_
 simp only [BS,LB,Nat.reduceLT,Nat.reduceEqDiff,F1w,s]
 refine step_ret (xX S.ok q m) ?_
 rintro v h ⟨g,w,rfl,e⟩
 replace S:=S.call g;clear g
 simp only [BS,LB,Nat.reduceLT,Nat.reduceEqDiff]
 have t:=S.fr.n
 have u:=qk a.arcs Arc.s a.arcs.length i
 refine step_ret (g9 S.ok iq e (by omega)) ?_;intro v h ⟨g,e,hc⟩;replace S:=S.call g;clear g
 simp only [BS,LB,ae,Nat.reduceLT,Nat.reduceEqDiff]
 exact⟨S.gr,e,fun c h=>Xc t (hc c h)⟩
theorem A8{d:Hp}(j:d.t.Sized d.n){p:Value}{a:Gra}{k:Nat}(c:bW d k p a)(l:a.arcs.length<1000){i:Nat}(m:i<a.nodes):Ret zB 139 [p,.int .i64 i] d fun r f=>Gr d f/\ay f 1 eO r (outs a.arcs Arc.t a.arcs.length i)/\ ∀c,aq r c->d.n<=c:=by
 have S:=Si j
 obtain⟨b,x,y,z,A,B,rfl,r,C,D,q,_⟩:=c.ex
 have s:=r.load1 (o:=5) rfl
 refine ab (n:=20) (rs:=[.tmp 4]) rfl Tryz.e139 rfl rfl rfl (lbt rfl) ?_
 simp only [BS,LB,Nat.reduceLT,Nat.reduceEqDiff,F1x,s]
 refine step_ret (xX S.ok q m) ?_
 rintro v h ⟨g,w,rfl,e⟩
 replace S:=S.call g;clear g
 simp only [BS,LB,Nat.reduceLT,Nat.reduceEqDiff]
 have t:=S.fr.n
 have u:=qk a.arcs Arc.t a.arcs.length i
 refine step_ret (g9 S.ok iq e (by omega)) ?_;intro v h ⟨g,e,hc⟩;replace S:=S.call g;clear g
 simp only [BS,LB,ae,Nat.reduceLT,Nat.reduceEqDiff]
 exact⟨S.gr,e,fun c h=>Xc t (hc c h)⟩
theorem mul64_ok{a:Hp}(c:a.t.Sized a.n){N:Nat}(j:N<1000):bG zB 235 [.int .u64 1,.int .u64 N] a (.tuple #[.int .u64 0,.int .u64 N]):=by
 have S:=Si c
 have d: ∀{t x y},a9 zB .and t x y (.int .u64 1) (.int .u64 4294967295)=some (.int .u64 1):=b_andU (N:=1) (by decide)
 have e: ∀{t x y},a9 zB .and t x y (.int .u64 0) (.int .u64 4294967295)=some (.int .u64 0):=b_andU (N:=0) (by decide)
 have f: ∀{t x y b},a9 zB .shr t x y (.int .u64 1) (.int b 32)=some (.int .u64 0):=b_shrU (N:=1) (by decide)
 have g: ∀{t x y b},a9 zB .shr t x y (.int .u64 0) (.int b 32)=some (.int .u64 0):=b_shrU (N:=0) (by decide)
 have h:am .u64 (N:Int)=(N:Int):=xi (by omega) (by omega)
 have i:am .u64 0=0:=rfl
 refine ab (n:=51) (rs:=[.tmp 4,.tmp 5]) rfl Tryz.e235 rfl rfl rfl (lbt rfl) ?_
 simp only [BS,LB,ae,Nat.reduceLT,Nat.reduceEqDiff,d,e,f,g,b_andU (N:=N) (by omega),b_shrU (N:=N) (by omega),Int.one_mul,Int.zero_mul,Int.mul_zero,Int.add_zero,h,i]
 exact S.gr
theorem mul_ok{a:Hp}(b:a.t.Sized a.n){N:Nat}(c:N<1000):bG zB 218 [.int .u64 1,.int .u64 N] a (.tuple #[.int .u64 0,.int .u64 N]):=by
 have S:=Si b
 refine ab (n:=30) (rs:=[.tmp 4,.tmp 5]) rfl Tryz.e218 rfl rfl rfl (lbt rfl) ?_
 simp only [BS,LB,Nat.reduceLT,Nat.reduceEqDiff]
 refine al (mul64_ok S.ok c) ?_;intro h g;replace S:=S.call g;clear g
 simp only [BS,LB,ae,Nat.reduceLT,Nat.reduceEqDiff]
 exact S.gr
def Tryz.FX:=aj t1<|aj t2<|aj t3<|aj t4<|aj t5<|aj t6<|aj Z0<|aj Z2<|aj t9<|t38
def Tryz.F0e:=aj t1<|aj t2<|aj t3<|aj t4<|aj t5<|aj t6<|aj Z0<|aj Z2<|aj t9<|aj t20<|t38
def Tryz.FP:=aj t1<|aj t2<|aj t3<|aj t4<|aj t5<|aj t6<|aj t38<|aj t73<|Z5
theorem norm_ok{a:Hp}(j:a.t.Sized a.n){l:List Int}{v:Value}(b:ay a 1 (encI .i64) v l)(k:l.length<1000):
 Ret zB 80 [v] a fun r d=>Gr a d/\ay d 1 (encI .i64) r (norm [] l)/\ ∀c,aq r c->a.n<=c:=by
 have S:=Si j
 refine ab (n:=6) (rs:=[.tmp 2]) rfl Tryz.e80 rfl rfl rfl (lbt rfl) ?_
 simp only [BS,LB,Nat.reduceLT,Nat.reduceEqDiff]
 refine step_ret (namer_ok S.ok) ?_;intro v h ⟨g,bx,bm,m,n1,n2,R,hg⟩;replace S:=S.call g;replace b:=b.gr g;clear g
 subst m
 simp only [BS,LB,Nat.reduceLT,Nat.reduceEqDiff]
 refine step_ret (each_ok (ks:=[]) S.ok R hg b k) ?_
 rintro r h ⟨f,o,p⟩
 simp only [BS,LB,ae,Nat.reduceLT,Nat.reduceEqDiff]
 exact⟨(S.fr.trans f (fun i e=>.inr (by subst e;exact n2))).gr,o,fun c h=>Xc S.fr.n (p c h)⟩
theorem Av {g:Hp} (t:g.t.Sized g.n) {u v:Value} {l m:List Int} (r:ay g 1 (encI .i64) u l) (s:ay g 1 (encI .i64) v m) (B:l.length<1000000):bG zB 79 [u,v] g (.bool (decide (l=m))):=by
 have S:=Si t
 by_cases a:l.length=m.length
 . have hle:((l.length:Int)=(m.length:Int)):=by omega
   refine ab (n:=26) (rs:=[.tmp 4]) rfl Tryz.e79 rfl rfl rfl (lbt rfl) ?_
   simp only [BS,LB,Nat.reduceLT,Nat.reduceEqDiff,FX,r.lenq,s.lenq,hle]
   refine az (fun(i:Nat) j h=>i<=l.length/\l.take i=m.take i/\Gr g h/\j 0=u/\j 1=v/\j 12=.int .i64 l.length/\j 13=.int .i64 i) (fun i=>l.length-i) ?_ 0 _ _ ?_
   . clear S
     intro i x j h ⟨hi,ht,S,r0,r1,r12,r13⟩
     by_cases hlt:i<l.length
     . obtain⟨c,o,d,k⟩:=(r.gr S).ix (kd:=.i64) (aH .i64) hlt
       obtain⟨C,D,b,e⟩:=(s.gr S).ix (kd:=.i64) (aH .i64) (a▸hlt)
       have w:am .i64 ((i:Int)+1)=((i+1:Nat):Int):=by rw [wrap64]<;>omega
       by_cases p:l[i]=m[i]
       . simp only [BS,LB,Nat.reduceLT,Nat.reduceEqDiff,r12,r13,an,hlt]
         refine au (ax rfl) (q:=0) (ps:=[]) (by kernel_rfl) ?_
         simp only [BS,LB,cls,Nat.reduceLT,Nat.reduceEqDiff,Nat.reduceAdd,Nat.reducePow,Nat.reduceDiv,Nat.reduceMod,Nat.reduceLeDiff,FX,r0,r1,r13,d,k,b,e,encI,p,w]
         refine x (i+1) _ _ (by omega) ⟨by omega,?_,S,by simp [aa,r0],by simp [aa,r1],by simp [aa,r12],by simp [aa]⟩
         rw [Xg hlt,Xg (a▸hlt),ht,p]
       . have f:l≠m:=by rintro rfl;exact p rfl
         simp only [BS,LB,Nat.reduceLT,Nat.reduceEqDiff,r12,r13,an,hlt]
         refine au (ax rfl) (q:=0) (ps:=[]) (by kernel_rfl) ?_
         simp only [BS,LB,cls,ae,Nat.reduceLT,Nat.reduceEqDiff,Nat.reduceAdd,Nat.reducePow,Nat.reduceDiv,Nat.reduceMod,Nat.reduceLeDiff,FX,r0,r1,d,k,b,e,encI,p,f]
         exact S
     . have y:l=m:=by
        have z:l.take i=l:=Xw (by omega)
        have A:m.take i=m:=Xw (by omega)
        rw [z,A]at ht;exact ht
       subst y
       simp only [BS,LB,ae,Nat.reduceLT,Nat.reduceEqDiff,r12,r13,an,hlt]
       exact S
   . exact⟨Nat.zero_le _,rfl,Gr.refl t,by simp [aa,aG],by simp [aa,aG,bK],by simp [aa,a],by simp [aa]⟩
 . have f:l≠m:=by rintro rfl;exact a rfl
   have hle: ¬((l.length:Int)=(m.length:Int)):=by omega
   refine ab (n:=26) (rs:=[.tmp 4]) rfl Tryz.e79 rfl rfl rfl (lbt rfl) ?_
   simp only [BS,LB,ae,Nat.reduceLT,Nat.reduceEqDiff,FX,r.lenq,s.lenq,hle,f]
   exact S.gr
def gK:List Int->Int
 | []=>0
 |x::a=>a.foldl max x
theorem lmax_succ{l:List Int}{i:Nat}(a:1<=i)(hlt:i<l.length):gK (l.take (i+1))=max (gK (l.take i)) l[i]:=by
 cases l with
 |nil=>cases hlt
 | cons x b=>
   obtain⟨j,rfl⟩: ∃j,i=j+1:=⟨i-1,by omega⟩
   rw [Yg,Yg,gK,gK,List.getElem_cons_succ,Xg (by simpa using hlt),List.foldl_append]
   rfl
theorem lmax_one{l:List Int}(a:0<l.length):gK (l.take 1)=l[0]:=by
 cases l with
 |nil=>cases a
 |cons x b=>rfl
theorem maxInt_ok{f:Hp}(p:f.t.Sized f.n){v:Value}{l:List Int}(g:ay f 1 (encI .i64) v l)(k:1<=l.length)(t:l.length<1000000):bG zB 81 [v] f (.int .i64 (gK l)):=by
 have S:=Si p
 have m: ¬((l.length:Int)<1):=by omega
 obtain⟨c,o,a,b⟩:=g.ix (kd:=.i64) (aH .i64) (i:=0) (by omega)
 have d:iQ (some 1) v (.int .i64 0)=_:=a
 have q:=lmax_one (l:=l) (by omega)
 generalize l[0]=x at b q
 refine ab (n:=25) (rs:=[.tmp 2]) rfl Tryz.e81 rfl rfl rfl (lbt rfl) ?_
 simp only [BS,LB,Nat.reduceLT,Nat.reduceEqDiff,F0e,g.lenq,m,d,b,encI]
 refine az (fun(i:Nat) j h=>1<=i/\i<=l.length/\Gr f h/\j 0=v/\j 3=.int .i64 (gK (l.take i))/\j 4=.int .i64 i) (fun i=>l.length-i) ?_ 1 _ _ ?_
 . clear S
   intro i s j h ⟨k,hi,S,r0,r3,r4⟩
   by_cases hlt:i<l.length
   . obtain⟨c,o,a,b⟩:=(g.gr S).ix (kd:=.i64) (aH .i64) hlt
     have w:am .i64 ((i:Int)+1)=((i+1:Nat):Int):=by rw [wrap64]<;>omega
     have r:=lmax_succ k hlt
     generalize l[i]=y at b r
     simp only [BS,LB,Nat.reduceLT,Nat.reduceEqDiff,F0e,r0,r3,r4,(g.gr S).lenq,an,hlt,a,b,encI,w]
     refine s (i+1) _ _ (by omega) ⟨by omega,by omega,S,by simp [aa,r0],?_,by simp [aa]⟩
     simp only [aT,Nat.reduceEqDiff,reduceIte]
     rw [r]
   . simp only [BS,LB,ae,Nat.reduceLT,Nat.reduceEqDiff,F0e,r0,r3,r4,(g.gr S).lenq,an,hlt]
     have e:l.take i=l:=Xw (by omega)
     rw [e]
     exact⟨rfl,S⟩
 . exact⟨Xj _,k,Gr.refl p,by simp [aa,aG],by simp [aa,q],by simp [aa]⟩
theorem zT(ks l:List Int):(norm ks l).length=l.length:=by
 induction l generalizing ks with
 |nil=>rfl
 |cons x a b=>show(norm _ a).length+1=_;rw [b];rfl
def iA(h:Hp)(n:Nat)(p:Value)(m:List Int):Prop:= ∃b v,p=ptrTo b/\Row h b [v,.int .i64 (gK m+1)] 1/\ay h 1 (encI .i64) v m/\n<=b/\ ∀c,aq v c->n<=c
theorem iA.mo{M:Nat->Prop}{h a:Hp}{n:Nat}{p:Value}{m:List Int}(c:iA h n p m)(g:Mo M h a)(d: ∀b,M b->b<n):iA a n p m:=by
 obtain⟨b,v,e,r,s,i,f⟩:=c
 exact⟨b,v,e,g.has (o:=.row _ 1) r (fun h=>by have:=d _ h;omega),s.mo g (fun c j k=>by have:=d _ k;have:=f c j;omega),i,f⟩
theorem iA.gr{h a:Hp}{n:Nat}{p:Value}{m:List Int}(c:iA h n p m)(g:Gr h a):iA a n p m:=c.mo (M:=NoM) g.fr (fun _ h=>h.elim)
def q7(m:List Int):Prop:=m=[]\/norm [] m≠m\/256<gK m+1
theorem vW{j:Hp}(A:j.t.Sized j.n){v:Value}{m:List Int}(d:ay j 1 (encI .i64) v m)(B:m.length<1000)(H:0<=gK m/\gK m<=1000000):
 Ret zB 25 [v] j fun r t=>Gr j t/\((q7 m/\r=.pointer none)\/(¬q7 m/\iA t j.n r m)):=by
 have S:=Si A
 have I:=zT [] m
 by_cases u:m=[]
 . subst u
   refine ab (n:=27) (rs:=[.tmp 2]) rfl Tryz.e25 rfl rfl rfl (lbt rfl) ?_
   simp only [BS,LB,ae,Nat.reduceLT,Nat.reduceEqDiff,zO,FP,d.lenq]
   exact⟨S.gr,.inl (.inl rfl)⟩
 . have C:1<=m.length:=by cases m with
    |nil=>exact absurd rfl u
    |cons a l=>simp
   have D: ¬((m.length:Int)=0):=by omega
   refine ab (n:=27) (rs:=[.tmp 2]) rfl Tryz.e25 rfl rfl rfl (lbt rfl) ?_
   simp only [BS,LB,Nat.reduceLT,Nat.reduceEqDiff,FP,d.lenq,D]
   refine step_ret (norm_ok S.ok d B) ?_;intro v h ⟨g,sl,fr⟩;replace S:=S.call g;replace d:=d.gr g;clear g
   by_cases p:norm [] m=m
   . simp only [BS,LB,Nat.reduceLT,Nat.reduceEqDiff]
     refine al (Av S.ok sl d (by omega)) ?_;intro h g;replace S:=S.call g;replace d:=d.gr g;clear g
     simp only [BS,LB,Nat.reduceLT,Nat.reduceEqDiff,p]
     have E:=S.fr.n
     refine step_ret (g9 S.ok (aH .i64) d (by omega)) ?_
     intro y h ⟨g,i,q⟩;replace S:=S.call g;replace d:=d.gr g;clear g
     have F:Fl y:=i.fl
     simp only [BS,LB,Nat.reduceLT,Nat.reduceEqDiff]
     refine al (maxInt_ok S.ok d C (by omega)) ?_;intro h g;replace S:=S.call g;replace d:=d.gr g;replace i:=i.gr g;clear g
     have w:am .i64 (gK m+1)=gK m+1:=by rw [wrap64]<;>omega
     have k:=S.gr
     clear S;have S:=Si k.ok
     simp only [BS,LB,Nat.reduceLT,Nat.reduceEqDiff,Nat.reduceAdd,FP,w,F]
     refine ag (bU (by intro x e;cases e)) S ?_;clear S;intro h b S s;simp only [ah]at S
     have z:=S.ld (b:=b) (o:=1) m0 rfl
     by_cases f:256<gK m+1
     . simp only [BS,LB,ae,Nat.reduceLT,Nat.reduceEqDiff,FP,f,z]
       exact⟨k.trans S.gr,.inl (.inr (.inr f))⟩
     . simp only [BS,LB,ae,Nat.reduceLT,Nat.reduceEqDiff,FP,f,z]
       exact⟨k.trans S.gr,.inr ⟨by rintro(h|h|h)<;>contradiction,b,y,rfl,S.row m0,i.gr S.gr,Xc k.n s,fun c G=>Xc E (q c G)⟩⟩
   . simp only [BS,LB,Nat.reduceLT,Nat.reduceEqDiff]
     refine al (Av S.ok sl d (by omega)) ?_;intro h g;replace S:=S.call g;replace d:=d.gr g;clear g
     simp only [BS,LB,ae,Nat.reduceLT,Nat.reduceEqDiff,p]
     exact⟨S.gr,.inl (.inr (.inl p))⟩
def Tryz.F1y:=aj t1<|aj t2<|aj t3<|aj t4<|aj t23<|aj t35<|aj Z1<|aj t38<|aj t67<|aj Z4<|aj t162<|Z3
theorem mi{a:Hp}(e:a.t.Sized a.n){p:Value}{d:Gra}{f:Nat}(c:bW a f p d):bG zB 85 [p] a (.int .i64 d.arcs.length):=by
 have S:=Si e
 obtain⟨b,i,j,k,l,m,rfl,r,g,_⟩:=c.ex
 have h:=r.load1 (o:=3) rfl
 refine ab (n:=11) (rs:=[.tmp 2]) rfl Tryz.e85 rfl rfl rfl (lbt rfl) ?_
 simp only [BS,LB,ae,Nat.reduceLT,Nat.reduceEqDiff,F1y,h,g.A.lenq]
 exact S.gr
def Tryz.F0M:=aj t1<|aj t2<|aj t3<|aj t4<|aj t38<|aj t73<|Z5
def Tryz.F0N:=aj t1<|aj t2<|aj t3<|aj t4<|aj t38<|aj t73<|Z5
def Tryz.F0O:=aj t1<|aj t2<|aj t3<|aj t4<|aj t5<|aj t22<|aj t74<|Z8
def Tryz.F0P:=aj t1<|aj t2<|aj t3<|aj t4<|aj t5<|aj t22<|aj t74<|Z8
def Tryz.F0f:=aj t1<|aj t2<|aj t3<|aj t4<|aj t5<|aj t6<|aj Z0<|t228
def Tryz.F1z:=aj t1<|aj t3<|aj t4<|aj Z1<|aj t38<|aj t67<|aj t73<|aj Z5<|aj t162<|Z3
def lO(h:Hp)(p:Value)(m:List Int)(n:Int):Prop:=(p=.pointer none/\m=[]/\n=0)\/((∃k,iA h k p m)/\n=gK m+1)
theorem lO.gr{h a:Hp}{p:Value}{m:List Int}{n:Int}(g:Gr h a)(c:lO h p m n):lO a p m n:=c.imp (fun h=>h) (fun⟨⟨k,h⟩,e⟩=>⟨⟨k,h.gr g⟩,e⟩)
theorem map_ok{a:Hp}(e:a.t.Sized a.n){p:Value}{m:List Int}{n:Int}(c:lO a p m n)(f:m.length<1000000):Ret zB 34 [p] a fun r d=>Gr a d/\ay d 1 (encI .i64) r m:=by
 have S:=Si e
 rcases c with⟨rfl,rfl,rfl⟩|⟨⟨_,b,v,rfl,r,s,_,_⟩,rfl⟩
 . refine ab (n:=10) (rs:=[.tmp 2]) rfl Tryz.e34 rfl rfl rfl (lbt rfl) ?_
   simp only [BS,LB,ae,Nat.reduceLT,Nat.reduceEqDiff,F0M]
   exact⟨S.gr,.inl ⟨rfl,rfl⟩⟩
 . have i:=r.load1 (o:=0) rfl
   refine ab (n:=10) (rs:=[.tmp 2]) rfl Tryz.e34 rfl rfl rfl (lbt rfl) ?_
   simp only [BS,LB,Nat.reduceLT,Nat.reduceEqDiff,F0M,i]
   refine step_ret (g9 S.ok (aH .i64) s f) ?_;intro v h ⟨g,sl,_⟩;replace S:=S.call g;clear g
   simp only [BS,LB,ae,Nat.reduceLT,Nat.reduceEqDiff]
   exact⟨S.gr,sl⟩
theorem tX{a:Hp}(d:a.t.Sized a.n){p:Value}{m:List Int}{n:Int}(c:lO a p m n):bG zB 84 [p] a (.int .i64 n):=by
 have S:=Si d
 rcases c with⟨rfl,rfl,rfl⟩|⟨⟨_,b,v,rfl,r,s,_,_⟩,rfl⟩
 . refine ab (n:=9) (rs:=[.tmp 2]) rfl Tryz.e84 rfl rfl rfl (lbt rfl) ?_
   simp only [BS,LB,ae,Nat.reduceLT,Nat.reduceEqDiff,F0N]
   exact S.gr
 . have e:=r.load1 (o:=1) rfl
   refine ab (n:=9) (rs:=[.tmp 2]) rfl Tryz.e84 rfl rfl rfl (lbt rfl) ?_
   simp only [BS,LB,ae,Nat.reduceLT,Nat.reduceEqDiff,F0N,e]
   exact S.gr
def qo(h:Hp)(p:Value)(a w:Int)(c:Bool):Prop:=(p=.pointer none/\a=0/\w=0/\c=false)\/ ∃b x y,p=ptrTo b/\Row h b [.int .i64 a,.int .i64 w,x,y] 1/\c=true
theorem qo.gr{h d:Hp}{p:Value}{a w:Int}{f:Bool}(g:Gr h d)(c:qo h p a w f):qo d p a w f:=c.imp (fun h=>h) (fun⟨b,x,y,e,r,n⟩=>⟨b,x,y,e,r.gr g,n⟩)
theorem kY{d:Hp}(e:d.t.Sized d.n){p:Value}{a w:Int}{f:Bool}(c:qo d p a w f):bG zB 106 [p] d (.int .i64 a):=by
 have S:=Si e
 rcases c with⟨rfl,rfl,rfl,rfl⟩|⟨b,x,y,rfl,r,rfl⟩
 . refine ab (n:=9) (rs:=[.tmp 2]) rfl Tryz.e106 rfl rfl rfl (lbt rfl) ?_
   simp only [BS,LB,ae,Nat.reduceLT,Nat.reduceEqDiff,F0O]
   exact S.gr
 . have g:=r.load1 (o:=0) rfl
   refine ab (n:=9) (rs:=[.tmp 2]) rfl Tryz.e106 rfl rfl rfl (lbt rfl) ?_
   simp only [BS,LB,ae,Nat.reduceLT,Nat.reduceEqDiff,F0O,g]
   exact S.gr
theorem nL{d:Hp}(e:d.t.Sized d.n){p:Value}{a w:Int}{f:Bool}(c:qo d p a w f):bG zB 107 [p] d (.int .i64 w):=by
 have S:=Si e
 rcases c with⟨rfl,rfl,rfl,rfl⟩|⟨b,x,y,rfl,r,rfl⟩
 . refine ab (n:=9) (rs:=[.tmp 2]) rfl Tryz.e107 rfl rfl rfl (lbt rfl) ?_
   simp only [BS,LB,ae,Nat.reduceLT,Nat.reduceEqDiff,F0P]
   exact S.gr
 . have g:=r.load1 (o:=1) rfl
   refine ab (n:=9) (rs:=[.tmp 2]) rfl Tryz.e107 rfl rfl rfl (lbt rfl) ?_
   simp only [BS,LB,ae,Nat.reduceLT,Nat.reduceEqDiff,F0P,g]
   exact S.gr
theorem allB_ok{b:Hp}(j:b.t.Sized b.n){v:Value}{l:List Bool}(k:ay b 1 encB v l)(p:l.length<1000):bG zB 105 [v] b (.bool (l.all id)):=by
 have S:=Si j
 refine ab (n:=14) (rs:=[.tmp 2]) rfl Tryz.e105 rfl rfl rfl (lbt rfl) ?_
 simp only [BS,LB,Nat.reduceLT,Nat.reduceEqDiff,F0f,k.lenq]
 refine az (fun(i:Nat) f h=>i<=l.length/\(l.take i).all id=true/\Gr b h/\f 5=v/\f 6=.int .i64 l.length/\f 7=.int .i64 i) (fun i=>l.length-i) ?_ 0 _ _ ?_
 . clear S
   intro i m f h ⟨hi,ht,S,r5,r6,r7⟩
   by_cases hlt:i<l.length
   . obtain⟨c,o,a,d⟩:=(k.gr S).ix (kd:=.i64) encB_len hlt
     have w:am .i64 ((i:Int)+1)=((i+1:Nat):Int):=by rw [wrap64]<;>omega
     cases g:l[i]with
     | true=>
       simp only [BS,LB,Nat.reduceLT,Nat.reduceEqDiff,F0f,r5,r6,r7,an,hlt,a,d,encB,g,w]
       refine m (i+1) _ _ (by omega) ⟨by omega,?_,S,by simp [aa,r5],by simp [aa,r6],by simp [aa]⟩
       rw [Xg hlt,List.all_append,ht,g];rfl
     | false=>
       have e:l.all id=false:=by rw [List.all_eq_false];exact⟨_,XY hlt,by simp [g]⟩
       simp only [BS,LB,ae,Nat.reduceLT,Nat.reduceEqDiff,F0f,r5,r6,r7,an,hlt,a,d,encB,g]
       rw [e]
       exact⟨rfl,S⟩
   . simp only [BS,LB,ae,Nat.reduceLT,Nat.reduceEqDiff,r6,r7,an,hlt]
     rw [Xw (by omega)]at ht
     rw [ht]
     exact⟨rfl,S⟩
 . exact⟨Nat.zero_le _,rfl,Gr.refl j,by simp [aa,aG],by simp [aa],by simp [aa]⟩
theorem A9{e:Hp}(i:e.t.Sized e.n){p q:Value}{b:Gra}{m:List Int}{n:Int}{j:Nat}(c:bW e j p b)(d:lO e q m n)(l:1<=b.nodes)(k:m.length<1000000):bG zB 82 [p,q] e (.bool (decide (m.length=b.nodes))):=by
 have S:=Si i
 have a:(0:Int)<(b.nodes:Int):=by omega
 have f:(b.nodes:Int)>0:=a
 refine ab (n:=16) (rs:=[.tmp 4]) rfl Tryz.e82 rfl rfl rfl (lbt rfl) ?_
 simp only [BS,LB,Nat.reduceLT,Nat.reduceEqDiff]
 refine al (cK S.ok c) ?_;intro h g;replace S:=S.call g;replace c:=c.gr g;replace d:=d.gr g;clear g
 simp only [BS,LB,Nat.reduceLT,Nat.reduceEqDiff,a]
 refine step_ret (map_ok S.ok d k) ?_;intro v h ⟨g,sl⟩;replace S:=S.call g;replace c:=c.gr g;replace d:=d.gr g;clear g
 simp only [BS,LB,Nat.reduceLT,Nat.reduceEqDiff,F1z,sl.lenq]
 refine al (cK S.ok c) ?_;intro h g;replace S:=S.call g;replace c:=c.gr g;replace d:=d.gr g;clear g
 simp only [BS,LB,ae,Nat.reduceLT,Nat.reduceEqDiff]
 refine⟨?_,S.gr⟩
 congr 1
 by_cases h:m.length=b.nodes
 . simp [h]
 . have: ¬((m.length:Int)=(b.nodes:Int)):=by omega
   simp [h,this]
theorem BU{f:Hp}(t:f.t.Sized f.n){p q r:Value}{i:Gra}{m:List Int}{n a w:Int}{j:Bool}{u:Nat}(c:bW f u p i)(d:lO f q m n)(e:qo f r a w j)(v:1<=i.nodes)(z:m.length<1000000):
 bG zB 48 [p,q,r] f (.bool (decide (m.length=i.nodes)&&j&&decide (a=n)&&decide (w=i.arcs.length))):=by
 have S:=Si t
 have A: ∀E:Env,n8 E 74=true-> ∀x y,a9 E .neq 74 x y r (.pointer none)=some (.bool j):=by
  intro E k x y
  rcases e with⟨rfl,_,_,rfl⟩|⟨b,_,_,rfl,_,rfl⟩
  . exact n_pnil k
  . exact n_ptr k
 refine ab (n:=24) (rs:=[.tmp 6]) rfl Tryz.e48 rfl rfl rfl (lbt rfl) ?_
 simp only [BS,LB,Nat.reduceLT,Nat.reduceEqDiff]
 refine al (A9 S.ok c d v z) ?_;intro h g;replace S:=S.call g;replace c:=c.gr g;replace d:=d.gr g;replace e:=e.gr g;clear g
 simp only [BS,LB,Nat.reduceLT,Nat.reduceEqDiff,A zB Tryz.t74.2.2.2.2.1]
 refine al (kY S.ok e) ?_;intro h g;replace S:=S.call g;replace c:=c.gr g;replace d:=d.gr g;replace e:=e.gr g;clear g
 simp only [BS,LB,Nat.reduceLT,Nat.reduceEqDiff]
 refine al (tX S.ok d) ?_;intro h g;replace S:=S.call g;replace c:=c.gr g;replace d:=d.gr g;replace e:=e.gr g;clear g
 simp only [BS,LB,Nat.reduceLT,Nat.reduceEqDiff]
 refine al (nL S.ok e) ?_;intro h g;replace S:=S.call g;replace c:=c.gr g;replace d:=d.gr g;replace e:=e.gr g;clear g
 simp only [BS,LB,Nat.reduceLT,Nat.reduceEqDiff]
 refine al (mi S.ok c) ?_;intro h g;replace S:=S.call g;replace c:=c.gr g;replace d:=d.gr g;replace e:=e.gr g;clear g
 simp only [BS,LB,Nat.reduceLT,Nat.reduceEqDiff]
 refine ag (bj (by exact Tryz.t228.1) (by exact Tryz.e4E) (by decide) (by rfl)) S ?_;clear S;intro h B S s;simp only [LC,aU,bA,ah,Nat.reduceMul,Nat.reduceAdd,Xx,Xs,Xr,XK]at S
 simp only [BS,LB,Nat.reduceLT,Nat.reduceEqDiff]
 refine al (allB_ok (l:=[decide (m.length=i.nodes),j,decide (a=n),decide (w=i.arcs.length)]) S.ok (.inr ⟨B,0,none,4,rfl,Xj _,S.lds (o:=0) (n:=4) m0 (lbt rfl)⟩) (by simp)) ?_;intro h g;replace S:=S.call g;clear g
 simp only [BS,LB,ae,Nat.reduceLT,Nat.reduceEqDiff]
 exact⟨by simp [Bool.and_assoc],S.gr⟩
end Go.Ab
end
section
namespace Go.Ab
theorem Ar{E:Env}{t e:TypeId}{b n N:Nat}{kd:IntKind}(c:E.und t=some (.slice e))(d:E.sz e=some 1)(f:n<N):cJ E t (.slice (some ⟨b,0,none⟩) N N) (some (.int kd (n:Int))) none none=some (.slice (some ⟨b,n,none⟩) (N-n) (N-n)):=by
 have a: ∀n:Nat,fe (n:Int)=some n:=fun n=>rfl
 have g:XF N n=false:=by
  cases h:XF N n with
  |false=>rfl
  |true=>have:=X7 h;omega
 simp only [cJ,c,dl,dL,a,Xb (XZ f),cond_true,d,Xd,cond_false,g,gG,Xr,Xs]
theorem yU{E:Env}{t e:TypeId}{b n N k:Nat}{kd:IntKind}(c:E.und t=some (.slice e))(d:E.sz e=some k)(f:n<=N):cJ E t (.slice (some ⟨b,0,none⟩) N N) none (some (.int kd (n:Int))) none=some (.slice (some ⟨b,0,none⟩) n N):=by
 have a: ∀n:Nat,fe (n:Int)=some n:=fun n=>rfl
 simp only [cJ,c,dl,dL,a,Xb f,cond_true,d,Xd,cond_false,gG,Xx,Yq,Yn]
 cases XF N 0<;>rfl
section
variable{M:Nat->Prop}{h0 h:Hp}{L:List (Nat×Ob)}{G:List GL}{E:Env}{t e:TypeId}
theorem St.copyO(S:St M h0 h L G){i b o len cap f o2 m n:Nat}{p c:Option Nat}{cs l:List Value}(g:L[i]? =some (b,.row cs 1))(q:E.und t=some (.slice e))(r:E.sz e=some 1)(v:0<dc m len)(j:h.load f o2 (dc m len*1)=some l)(d:o+l.length<=cs.length)(hf:l.all iL=true){ts:List TypeId}:
 ∃k w,copyV E h (t::ts) (.slice (some ⟨b,o,p⟩) len cap) (.slice (some ⟨f,o2,c⟩) m n)=some (k,w)/\w=.int .i64 (dc m len:Nat)/\St M h0 k (L.set i (b,.row (lay cs o l) 1)) G:=by
 obtain⟨y,s,u⟩:=(S.row (Xa g)).store S.ok ono (o:=o) (vs:=l) d hf
 have a:=load_len j
 refine⟨h.put b y,_,?_,rfl,S.put g u⟩
 simp only [copyV,q,r,j]
 cases l with
 |nil=>simp at a;omega
 |cons x z=>simp only [s];rfl
end
theorem jh{a b:Nat}(h:a<=b):dc a b=a:=by unfold dc;rw [Xb h];rfl
theorem tR{a b:Nat}(h:b<=a):dc a b=b:=by
 unfold dc
 cases c:XJ a b with
 |false=>rfl
 |true=>have:=lbt c;show a=b;omega
theorem tV{X Z:Value}{n c k:Nat}(e:c<=k):lay (zM n X++zM k Z) n (zM c X)=zM (n+c) X++zM (k-c) Z:=by
 refine Xo fun j=>?_
 rw [jG (by simp;omega),XG,Ye,Ye,XG,XG,Xh,Xh,Xh,Xh,Xh]
 by_cases a:j<n
 . rw [if_neg (by omega),if_pos a,if_pos a,if_pos (by omega),if_pos (by omega)]
 . by_cases b:j<n+c
   . rw [if_pos (by omega),if_pos (by omega),if_pos b,if_pos b]
   . rw [if_neg (by omega),if_neg a,if_neg b]
     by_cases d:j-n<k
     . rw [if_pos d,if_pos (by omega)]
     . rw [if_neg d,if_neg (by omega)]
theorem lE(z:Value): ∀n,aU [z] n=zM n z
 |0=>rfl
 |n+1=>by simp [aU,lE z n,List.replicate_succ]
def ClF(O:List Nat)(f:Int->Option Value):Prop:= ∀u:Nat,f (u:Int)=if u∈O then some (.int .i64 1)else none
end Go.Ab

end
section
namespace Go.Ab
section
variable{M:Nat->Prop}{h0 h h':Hp}{L L':List (Nat×Ob)}{G G':List GL}{Fh:List Nat}
theorem St.baseF(S:St M h0 h L G)(Fh:List Nat):St (fun c=>c∈keys L G\/c∈Fh) h h L G:=
 ⟨Mo.refl S.ok,fun p a=>⟨.inr (.inl (lZ a)),(S.own p a).2⟩,fun p a=>⟨(S.gown p a).1,fun b d=>.inr (.inl (kK a d))⟩,S.apart⟩
theorem St.rebaseF(S:St M h0 h L G)(e: ∀c∈Fh,h0.n<=c\/M c)(T:St (fun c=>c∈keys L G\/c∈Fh) h h' L' G'):St M h0 h' L' G':=by
 have f: ∀b,h.n<=b\/(b∈keys L G\/b∈Fh)->h0.n<=b\/M b:=fun b a=>a.elim (fun a=>.inl (Xc S.fr.n a)) (fun a=>a.elim S.key_own (e b))
 exact⟨S.fr.trans T.fr fun b a=>(a.elim S.key_own (e b)).symm,fun p d=>⟨f _ (T.own p d).1,(T.own p d).2⟩,fun p d=>⟨(T.gown p d).1,fun b a=>f b ((T.gown p d).2 b a)⟩,T.apart⟩
theorem St.callF(S:St M h0 h L G){i b:Nat}{o o':Ob}(l:L[i]? =some (b,o))(f:Mo (fun c=>c∈Fh\/c=b) h h')(m: ∀c∈Fh,(M c\/h0.n<=c)/\c∉keys L G)(r:Has h' b o'):St M h0 h' (L.set i (b,o')) G:=by
 have s:=S.own _ (Xa l)
 have g:(keys L G)[i]? =some b:=jM l
 refine⟨S.fr.trans f (fun c k=>by grind),fun p a=>?_,fun p a=>⟨(S.gown p a).1.of_get fun c k=>?_,(S.gown p a).2⟩,?_⟩
 . rcases lK a with rfl|⟨j,n,a⟩
   . grind
   . have d:=S.own p (Xa a)
     refine⟨d.1,d.2.of_get (f.get _ (d.2.lt S.ok) fun e=>?_)⟩
     rcases e with e|e
     . exact(m _ e).2 (lZ (Xa a))
     . apply n
       have q:(keys L G)[j]? =some b:=by rw [jM a];rw [e]
       exact qw S.apart q g
 . refine f.get c ((S.gown p a).1.lt S.ok k) fun e=>?_
   rcases e with e|e
   . exact(m _ e).2 (kK a k)
   . subst e
     have d:=S.apart
     unfold keys at d
     rw [Xn]at d
     exact d.2.2 c (List.mem_map.2 ⟨_,Xa l,rfl⟩) c (List.mem_filterMap.2 ⟨p,a,k⟩) rfl
 . have:keys (L.set i (b,o')) G=keys L G:=by
    unfold keys
    congr 1
    rw [Yk]
    refine Xo fun j=>?_
    grind
   rw [this];exact S.apart
theorem St.stepF(S:St M h0 h L G)(f:Mo (· ∈Fh) h h')(b: ∀c∈Fh,(M c\/h0.n<=c)/\c∉keys L G):St M h0 h' L G:=
 S.step f (fun c a=>(b c a).1) (fun c a d=>(b c d).2 a)
theorem St.permL(S:St M h0 h L G)(p:L'.Perm L):St M h0 h L' G:=
 ⟨S.fr,fun x a=>S.own x (p.mem_iff.1 a),S.gown,by
  have:(keys L' G).Perm (keys L G):=(p.map Xl).append_right _
  exact this.nodup_iff.2 S.apart⟩
end
theorem St.mono{M M':Nat->Prop}{d h:Hp}{L:List (Nat×Ob)}{G:List GL}(S:St M d h L G)(c: ∀b,M b->M' b):St M' d h L G:=
 ⟨S.fr.mono c,fun p a=>⟨(S.own p a).1.imp (fun h=>h) (c _),(S.own p a).2⟩,fun p a=>⟨(S.gown p a).1,fun b e=>((S.gown p a).2 b e).imp (fun h=>h) (c _)⟩,S.apart⟩
theorem Dj.exm{B:List Arc}{s N:Nat}{O:List Nat}{D:Nat->Nat}{K:Nat->Option Int}{b ex':Arc->Prop}(d:Dj B s N O D K b)(h: ∀a∈B,b a->ex' a):Dj B s N O D K ex':=
 ⟨d.i1,d.i2,d.i2f,d.i3,fun a c e f=>d.i4 a c e (fun g=>f (h a c g)),d.i5,d.nd,d.lt⟩
def sI:Value->Option Tch
 | .map (some r)=>some (.blk r)
 | .slice (some a) _ _=>some (.blk a.block)
 |_=>none
theorem rz{ρ:Operand->Value}{b:Bool}{x y:Operand}{ts:Array TypeId}{h a:Hp}:cE ρ b (.call ⟨.builtin .append,#[x,y],ts⟩) h a=sI (ρ x):=by
 simp only [cE,dC,jE,eU,touch,cond_false]
 cases ρ x<;>first|rfl|(rename_i x;cases x<;>rfl)|(rename_i x _ _;cases x<;>rfl)
theorem pair_x{x:Option Tch}:kr x none=true:=by
 cases x with
 |none=>rfl
 |some b=>cases b<;>rfl
theorem Ak{i:Nat}:cG i []=none:=rfl
end Go.Ab

end
section
namespace Go.Ab
def SlW(h:Hp)(kd:IntKind)(v:Value)(xs:List Int):Prop:=(v=.slice none 0 0/\xs=[])\/ ∃b o c,v=.slice (some ⟨b,o,none⟩) xs.length c/\xs.length<=c/\h.load b o (xs.length*1)=some (xs.flatMap (encI kd))
theorem SlW.sl{h:Hp}{kd:IntKind}{v:Value}{xs:List Int}(s:SlW h kd v xs):ay h 1 (encI kd) v xs:=s.imp (fun h=>h) (fun⟨b,o,c,a,d,e⟩=>⟨b,o,none,c,a,d,e⟩)
theorem SlW.low{E:Env}{h:Hp}{kd kd':IntKind}{t e:TypeId}{v:Value}{xs:List Int}(g:E.und t=some (.slice e))(j:E.sz e=some 1)(s:SlW h kd v xs){n:Nat}(a:n<=xs.length):
 ∃v',cJ E t v none (some (.int kd' (n:Int))) none=some v'/\ay h 1 (encI kd) v' (xs.take n)/\ ∀c,aq v' c->aq v c:=by
 have f: ∀n:Nat,fe (n:Int)=some n:=fun n=>rfl
 rcases s with⟨rfl,rfl⟩|⟨b,o,c,rfl,k,q⟩
 . have:n=0:=by simpa using a
   subst this
   refine⟨.slice none 0 0,?_,.inl ⟨rfl,rfl⟩,fun c d=>d⟩
   simp only [cJ,g,dl,dL,f,j]
   rfl
 . refine⟨.slice (some ⟨b,o,none⟩) n c,?_,.inr ⟨b,o,none,c,?_,?_,?_⟩,fun c d=>d⟩
   . simp only [cJ,g,dl,dL,f,Xb (Xc a k),cond_true,j,Xd,cond_false,Yn,gG,Xx,Yq]
     by_cases d:c=0
     . subst d;rfl
     . rw [show XF c 0=false by cases c with|zero=>exact absurd rfl d|succ c=>rfl];rfl
   . rw [Xi,X4 a]
   . rw [Xi,X4 a];exact Xc a k
   . rw [Xi,X4 a]
     have:=gP q (i:=0) (m:=n*1) (by omega)
     rw [Yq,X9]at this
     rw [this]
     congr 1
     refine Xo fun i=>?_
     have p: ∀l:List Int,l.flatMap (encI kd)=l.map fun x=>.int kd x:=fun l=>by
      rw [Xy,Yh,Xy];rfl
     rw [p,p,Xr,List.map_take]
end Go.Ab

end
section
namespace Go.Ab
open Go.Proofs
set_option maxRecDepth 10000
def iota(k:Nat):List Int:=(Xq k).map fun(i:Nat)=>(i:Int)
theorem z9(k:Nat):(iota k).length=k:=by simp [iota]
theorem yo(k:Nat):iota (k+1)=iota k++[(k:Int)]:=by simp [iota,List.range_succ]
theorem pos_app(l:List Int)(x y:Int):pos (l++[y]) x=match pos l x with|some i=>some i|none=>if x=y then some l.length else none:=by
 induction l with
 |nil=>simp [pos]
 | cons z a b=>
   rw [XW,pos,pos]
   by_cases h:x=z
   . rw [if_pos h,if_pos h]
   . rw [if_neg h,if_neg h,b]
     cases pos a x with
     |some i=>rfl
     |none=>by_cases c:x=y<;>simp [c]
theorem AH(k j:Nat):pos (iota k) (j:Int)=if j<k then some j else none:=by
 induction k with
 |zero=>rfl
 | succ k a=>
   rw [yo,pos_app,a,z9]
   by_cases h:j<k
   . rw [if_pos h,if_pos (show j<k+1 by omega)]
   . rw [if_neg h]
     by_cases b:j=k
     . subst b;simp
     . have: ¬((j:Int)=(k:Int)):=by omega
       simp only [this,if_false];rw [if_neg (by omega)]
theorem pos_lt{l:List Int}{x:Int}{i:Nat}(h:pos l x=some i):i<l.length:=by
 induction l generalizing i with
 |nil=>cases h
 | cons y b c=>
   rw [pos]at h
   by_cases e:x=y
   . rw [if_pos e]at h;cases h;simp
   . rw [if_neg e]at h
     cases a:pos b x with
     |none=>rw [a]at h;cases h
     |some j=>rw [a]at h;cases h;have:=c a;simp;omega
theorem norm_idem(ks l:List Int):norm (iota ks.length) (norm ks l)=norm ks l:=by
 induction l generalizing ks with
 |nil=>rfl
 | cons x c a=>
   rw [norm,norm]
   unfold n9 nY
   cases b:pos ks x with
   | some i=>
     simp only []
     rw [AH,if_pos (pos_lt b)]
     simp only []
     rw [a]
   | none=>
     simp only []
     rw [AH,if_neg (by omega)]
     simp only []
     rw [z9,<-yo]
     have:=a (ks++[x])
     rw [Xt,X6]at this
     rw [this]
theorem xy(ks l:List Int): ∀x∈norm ks l,0<=x/\x<=((ks.length+l.length:Nat):Int):=by
 induction l generalizing ks with
 |nil=>intro x a;cases a
 | cons y e b=>
   intro x a
   rw [norm]at a
   rcases List.mem_cons.1 a with rfl|a
   . have:n9 ks y<=ks.length:=by
      unfold n9
      cases c:pos ks y with
      |some i=>exact XZ (pos_lt c)
      |none=>exact Xj _
     simp;omega
   . have d:=b _ x a
     have:(nY ks y).length<=ks.length+1:=by
      unfold nY
      cases pos ks y<;>simp
     simp at d⊢;omega
theorem fold_bd(K:Int)(l:List Int)(a:Int)(b:0<=a/\a<=K)(h: ∀x∈l,0<=x/\x<=K):0<=l.foldl max a/\l.foldl max a<=K:=by
 induction l generalizing a with
 |nil=>exact b
 | cons x e c=>
   have f:=h x (by simp)
   exact c (max a x) (by omega) (fun y d=>h y (by simp [d]))
theorem lmax_bd{K:Int}(a:0<=K){l:List Int}(h: ∀x∈l,0<=x/\x<=K):0<=gK l/\gK l<=K:=by
 cases l with
 |nil=>exact⟨Int.le_refl _,a⟩
 |cons x b=>exact fold_bd K b x (h x (by simp)) (fun y c=>h y (by simp [c]))
theorem ay.blt{a:Type}{h:Hp}{k:Nat}{enc:a->List Value}{v:Value}{xs:List a}(f:h.t.Sized h.n)(s:ay h k enc v xs){c:Nat}(d:aq v c):c<h.n:=by
 rcases s with⟨rfl,_⟩|⟨b,o,_,_,rfl,_,g⟩
 . exact d.elim
 . have:b=c:=d
   subst this
   cases e:h.get b with
   |none=>simp [Hp.load,e]at g
   |some x=>exact hZ f e
end Go.Ab
end
section
namespace Go.Ab
theorem yX{z:Nat}(h:z<256):am .u8 (z:Int)=(z:Int):=by
 show am .u8 (.ofNat z)=_
 unfold am
 simp only [hf,sgn,pw]
 have:XV z 256=true:=by rw [XU];exact h
 rw [this];rfl
section
variable{E:Env}{t:TypeId}{p q:Operand}{x y i:Nat}
theorem bits8(op:BinOp)(a:x<256)(b:y<256):iz op .u8 (x:Int) (y:Int)=match op with
 | .and=>some (am .u8 ((Yd x y:Nat):Int))
 | .or=>some (am .u8 ((Nat.lor x y:Nat):Int))
 | .xor=>some (am .u8 ((Nat.xor x y:Nat):Int))
 | .andNot=>some (am .u8 ((Nat.xor x (Yd x y):Nat):Int))
 |_=>none:=by
 show iz op .u8 (.ofNat x) (.ofNat y)=_
 have c:XV x (pw .u8)=true:=by rw [XU];exact a
 have d:XV y (pw .u8)=true:=by rw [XU];exact b
 unfold iz
 simp only [c,d,Bool.and_self,cond_true]
 cases op<;>rfl
theorem b_or8(a:x<256)(b:y<256):a9 E .or t p q (.int .u8 (x:Int)) (.int .u8 (y:Int))=some (.int .u8 ((x|||y:Nat):Int)):=by
 show(bif iR .u8 .u8 then(iz .or .u8 (x:Int) (y:Int)).map (Value.int .u8 ·)else none)=_
 rw [bits8 .or a b]
 simp only []
 rw [show Nat.lor x y=x|||y from rfl,yX (Nat.or_lt_two_pow (n:=8) a b)]
 rfl
theorem yf(a:x<256)(b:y<256):a9 E .andNot t p q (.int .u8 (x:Int)) (.int .u8 (y:Int))=some (.int .u8 ((x ^^^(x&&& y):Nat):Int)):=by
 show(bif iR .u8 .u8 then(iz .andNot .u8 (x:Int) (y:Int)).map (Value.int .u8 ·)else none)=_
 rw [bits8 .andNot a b]
 simp only []
 rw [show Nat.xor x (Yd x y)=x ^^^(x&&& y)from rfl,yX (XN (n:=8) a (XO X5 a))]
 rfl
theorem b_shl8{k:IntKind}(a:i<8):a9 E .shl t p q (.int .u8 1) (.int k (i:Int))=some (.int .u8 ((2 ^i:Nat):Int)):=by
 have:i=0\/i=1\/i=2\/i=3\/i=4\/i=5\/i=6\/i=7:=by omega
 rcases this with rfl|rfl|rfl|rfl|rfl|rfl|rfl|rfl<;>rfl
end
theorem pow8{i:Nat}(h:i<8):2 ^i<256:=Nat.pow_lt_pow_right (by decide) h
def setB(x i:Nat):Nat:=(x ^^^(x&&& 2 ^i))|||2 ^i
theorem setB_at(x i j:Nat):(setB x i).testBit j=if j=i then true else x.testBit j:=by
 unfold setB
 rw [Nat.testBit_or,Nat.testBit_xor,Nat.testBit_and,Nat.testBit_two_pow]
 by_cases e:j=i
 . subst e;simp
 . have a: ¬i=j:=fun h=>e h.symm
   simp [e,a]
theorem setB_lt{x i:Nat}(a:x<256)(b:i<8):setB x i<256:=
 Nat.or_lt_two_pow (n:=8) (XN (n:=8) a (XO X5 a)) (pow8 b)
end Go.Ab

end
section
namespace Go.Ab
open Go.Proofs
set_option maxRecDepth 10000

def Tryz.F0Q:=aj t1<|aj t2<|aj t3<|aj t4<|aj t5<|aj t6<|aj t22<|aj t74<|Z8
def Tryz.F0R:=aj t1<|aj t2<|aj t3<|aj t4<|aj t5<|t157
def gc(n:Nat)(B:Nat->Nat):List Value:=(Xq n).map fun j=>.int .u8 (B j:Nat)
theorem mN{n:Nat}{B:Nat->Nat}:(gc n B).length=n:=by simp [gc]
theorem uj{n j:Nat}{B:Nat->Nat}(h:j<n):(gc n B)[j]? =some (.int .u8 (B j:Nat)):=mS (F:=fun j=>Value.int .u8 ((B j:Nat):Int)) h
theorem u9{n j x:Nat}{B:Nat->Nat}:(gc n B).set j (.int .u8 (x:Nat))=gc n (gy B j x):=by
 have:=kA (N:=n) (k:=j) (F:=fun j=>Value.int .u8 ((B j:Nat):Int)) (F':=fun u=>Value.int .u8 ((gy B j x u:Nat):Int)) (fun i _ a=>by simp [gy,a])
 unfold gc
 rw [<-this];simp [gy]
structure ij(h:Hp)(bp bb rows wide long:Nat)(B:Nat->Nat):Prop where
 r:Row h bp [.int .i64 rows,.int .i64 wide,.int .i64 long,.slice (some ⟨bb,0,none⟩) (rows*long) (rows*long)] 1
 b:Row h bb (gc (rows*long) B) 1
 lt: ∀j,B j<256
theorem ij.gr{h d:Hp}{e f a b c:Nat}{B:Nat->Nat}(m:ij h e f a b c B)(g:Gr h d):ij d e f a b c B:=⟨m.r.gr g,m.b.gr g,m.lt⟩
theorem ij.bits{h:Hp}{d e a b c:Nat}{B:Nat->Nat}(m:ij h d e a b c B):qo h (ptrTo d) a b true:=.inr ⟨d,_,_,rfl,m.r,rfl⟩
def bitB(B:Nat->Nat)(a r i:Nat):Bool:=(B (r*a+i/8)).testBit (i%8)
theorem Ae{B:Nat->Nat}{b r i d c:Nat}(g:i/8<b)(j:c/8<b):bitB (gy B (r*b+i/8) (setB (B (r*b+i/8)) (i%8))) b d c=if d=r/\c=i then true else bitB B b d c:=by
 unfold bitB gy
 by_cases e:d*b+c/8=r*b+i/8
 . rw [if_pos e,setB_at]
   have k:d=r:=by
    have a:(d*b+c/8)/b=(r*b+i/8)/b:=by rw [e]
    rw [Nat.mul_comm d,Nat.mul_comm r,Nat.mul_add_div (by omega),Nat.mul_add_div (by omega),Nat.div_eq_of_lt g,Nat.div_eq_of_lt j]at a
    omega
   subst k
   have e8:c/8=i/8:=by omega
   rw [e]
   by_cases f:c%8=i%8
   . rw [if_pos f,if_pos ⟨rfl,by omega⟩]
   . rw [if_neg f,if_neg (fun h=>f (by rw [h.2]))]
 . rw [if_neg e,if_neg (fun h=>e (by rw [h.1,h.2]))]
theorem A5{f:Hp}(v:f.t.Sized f.n){a w:Nat}(y:a<=100)(D:w<=1000):Ret zB 83 [.int .i64 (a:Nat),.int .i64 (w:Nat)] f fun r l=>Gr f l/\ ∃c d,r=ptrTo c/\f.n<=c/\f.n<=d/\c≠d/\ij l c d a w ((w+7)/8) (fun _=>0):=by
 have S:=Si v
 have m: ¬((a:Int)<0):=by omega
 have o: ¬((w:Int)<0):=by omega
 have p: ¬((67108864:Int)<(w:Int)):=by omega
 have q:am .i64 ((w:Int)+8)=(w:Int)+8:=by rw [wrap64]<;>omega
 have s:am .i64 ((w:Int)+8-1)=((w+7:Nat):Int):=by rw [wrap64]<;>omega
 have i:(w+7)/8<=126:=by omega
 have j:am .i64 ((((w+7:Nat):Int)).tdiv 8)=(((w+7)/8:Nat):Int):=by
  rw [XB (by omega),show(((w+7:Nat):Int)/8)=(((w+7)/8:Nat):Int) by omega,wrap64]<;>omega
 generalize E:(w+7)/8=K at i j
 have F:a*K<=100*126:=X8 y i
 have t:am .i64 ((a:Int)*(K:Int))=((a*K:Nat):Int):=by rw [<-Int.natCast_mul,wrap64]<;>omega
 have mk: ∀(n:Nat),aU [Value.int .u8 0] n=gc n (fun _=>0):=fun n=>by
  rw [lE]
  unfold gc
  rw [List.map_const',XS]
  rfl
 by_cases u:0<(K:Int)
 . have z:(268435456:Int).tdiv (K:Int)=((268435456/K:Nat):Int):=by
    rw [XB (by decide)];rfl
   have G:268435456/126<=268435456/K:=Nat.div_le_div_left i (by omega)
   have H:268435456/K<=268435456:=Nat.div_le_self _ _
   have I:(268435456/126:Nat)=2130440:=rfl
   have A:am .i64 ((268435456:Int).tdiv (K:Int))=(268435456:Int).tdiv (K:Int):=by rw [z,wrap64]<;>omega
   have B: ¬((268435456:Int).tdiv (K:Int)<(a:Int)):=by omega
   have C:(K:Int)≠0:=by omega
   refine ab (n:=37) (rs:=[.tmp 4]) rfl Tryz.e83 rfl rfl rfl (lbt rfl) ?_
   simp only [BS,LB,Nat.reduceLT,Nat.reduceEqDiff,m,o,p,q,s,j,A,t,u,B,mL (n:=8) (by decide),mL (n:=(K:Int)) C]
   refine ag (j8 (by exact Tryz.t22.1) (by exact Tryz.e5E) (by omega) (by omega)) S ?_;clear S;intro h d S b
   rw [Xe,mk]at S
   simp only [BS,LB,Nat.reduceLT,Nat.reduceEqDiff,Nat.reduceAdd,F0Q,Xe]
   refine ag (bU (by intro x e;cases e)) S ?_;clear S;intro h c S g;simp only [ah]at S
   simp only [BS,LB,ae,Nat.reduceLT,Nat.reduceEqDiff]
   have k:=S.apart
   exact⟨S.gr,c,d,rfl,by have:=S.fr.n;omega,b,fun e=>(by subst e;simp [keys]at k),⟨S.row m0,S.row m1,fun _=>Nat.zero_lt_succ _⟩⟩
 . refine ab (n:=37) (rs:=[.tmp 4]) rfl Tryz.e83 rfl rfl rfl (lbt rfl) ?_
   simp only [BS,LB,Nat.reduceLT,Nat.reduceEqDiff,m,o,p,q,s,j,t,u,mL (n:=8) (by decide)]
   refine ag (j8 (by exact Tryz.t22.1) (by exact Tryz.e5E) (by omega) (by omega)) S ?_;clear S;intro h d S b
   rw [Xe,mk]at S
   simp only [BS,LB,Nat.reduceLT,Nat.reduceEqDiff,Nat.reduceAdd,F0Q,Xe]
   refine ag (bU (by intro x e;cases e)) S ?_;clear S;intro h c S g;simp only [ah]at S
   simp only [BS,LB,ae,Nat.reduceLT,Nat.reduceEqDiff]
   have k:=S.apart
   exact⟨S.gr,c,d,rfl,by have:=S.fr.n;omega,b,fun e=>(by subst e;simp [keys]at k),⟨S.row m0,S.row m1,fun _=>Nat.zero_lt_succ _⟩⟩
theorem set1_ok{c:Hp}(s:c.t.Sized c.n){a e j n i:Nat}{B:Nat->Nat}(R:Row c a (gc n B) 1)(d:j<n)(f:B j<256)(t:i<8)(v:c.load e 0 1=some [.bool true])(g:e≠a):
 Ret zB 88 [.pointer (some ⟨a,j,none⟩),.int .u8 ((2 ^i:Nat):Int),ptrTo e] c fun r m=>Mo (· =a) c m/\r=.bool true/\Row m a (gc n (gy B j (setB (B j) i))) 1:=by
 have S:=St.init1 s (o:=.row (gc n B) 1) R
 have p:=S.ld (b:=a) (o:=j) m0 (uj d)
 have q:=pow8 t
 have w:(B j ^^^(B j&&& 2 ^i))<256:=XN (n:=8) f (XO X5 f)
 refine ab (n:=19) (rs:=[.tmp 5]) rfl Tryz.e88 rfl rfl rfl (lbt rfl) ?_
 simp only [BS,LB,Nat.reduceLT,Nat.reduceEqDiff,F0R,p,yf f q]
 refine aw (ar S (i:=0) rfl Tryz.t5.2.2.1 cg (by rw [mN];exact d) ono) ?_
 clear S p;rintro h ⟨S,x⟩
 simp only [LC]at S
 rw [u9]at S
 have k:=S.ld (b:=a) (o:=j) m0 (uj d)
 have y:gy B j (B j ^^^(B j&&& 2 ^i)) j=(B j ^^^(B j&&& 2 ^i)):=by simp [gy]
 rw [y]at k
 have l:=S.old v g
 simp only [BS,LB,Nat.reduceLT,Nat.reduceEqDiff,F0R,l,k,b_or8 w q]
 refine aw (ar S (i:=0) rfl Tryz.t5.2.2.1 cg (by rw [mN];exact d) ono) ?_
 clear S k;rintro h ⟨S,x⟩
 simp only [LC]at S
 rw [show(((B j ^^^(B j&&& 2 ^i))|||2 ^i:Nat):Int)=((setB (B j) i:Nat):Int)from rfl,u9]at S
 have z:gy (gy B j (B j ^^^(B j&&& 2 ^i))) j (setB (B j) i)=gy B j (setB (B j) i):=by
  funext u;unfold gy;split<;>rfl
 rw [z]at S
 simp only [BS,LB,ae,Nat.reduceLT,Nat.reduceEqDiff]
 exact⟨S.fr,S.row m0⟩
end Go.Ab
end
section
namespace Go.Ab
open Go.Proofs
set_option maxRecDepth 10000
def Tryz.F1A:=aj t1<|aj t2<|aj t3<|aj t4<|aj t5<|aj t22<|aj t74<|aj t157<|aj t158<|Z8
section
variable{h0:Hp}{bp bb rows wide long:Nat}{B:Nat->Nat}
theorem vK{r i:Nat}(e:r<rows)(g:i<wide)(a:rows<=100)(b:wide<=1000)(c:long=(wide+7)/8):
 am .i64 ((r:Int)*(long:Int))=((r*long:Nat):Int)/\am .i64 ((i:Int).tdiv 8)=((i/8:Nat):Int)/\am .i64 (((r*long:Nat):Int)+((i/8:Nat):Int))=((r*long+i/8:Nat):Int)/\(i:Int).tmod 8=((i%8:Nat):Int)/\r*long+i/8<rows*long/\i/8<long/\i%8<8:=by
 have f:long<=126:=by omega
 have h:r*long<=100*126:=X8 (by omega) f
 have d:i/8<long:=by omega
 have j:r*long+long<=rows*long:=by
  rw [<-Nat.succ_mul];exact Ya _ e
 refine⟨by rw [<-Int.natCast_mul,wrap64]<;>omega,?_,by rw [wrap64]<;>omega,rfl,by omega,d,by omega⟩
 rw [show(i:Int).tdiv 8=((i/8:Nat):Int)from rfl,wrap64]<;>omega
theorem bSet_ok(x:h0.t.Sized h0.n)(m:ij h0 bp bb rows wide long B)(l:bp≠bb){r i:Nat}(E:r<rows)(F:i<wide)(b:rows<=100)(d:wide<=1000)(e:long=(wide+7)/8):
 Ret zB 28 [ptrTo bp,.int .i64 (r:Nat),.int .i64 (i:Nat),.bool true] h0 fun v p=>Mo (· =bb) h0 p/\v=.bool true/\ij p bp bb rows wide long (gy B (r*long+i/8) (setB (B (r*long+i/8)) (i%8))):=by
 obtain⟨G,H,I,J,y,n6,t⟩:=vK E F b d e
 have K: ∀{h:Hp} {s:Nat},Gr h0 h->h.load s 0 1=some [.bool true]->s≠bb->Ret zB 87 [ptrTo bp,.int .i64 (r:Nat),.int .i64 (i:Nat),.func (.func 88) #[] #[ptrTo s]] h fun v p=>Mo (· =bb) h p/\v=.bool true/\Row p bb (gc (rows*long) (gy B (r*long+i/8) (setB (B (r*long+i/8)) (i%8)))) 1:=by
  intro h s g L N
  have S:=Si g.ok
  have k:=m.gr g
  have O: ¬(r:Int)<0:=by omega
  have P: ¬(rows:Int)<=(r:Int):=by omega
  have Q: ¬(i:Int)<0:=by omega
  have T: ¬(wide:Int)<=(i:Int):=by omega
  have U:=k.r.load1 (o:=2) rfl
  have V:=k.r.load1 (o:=3) rfl
  have W:=k.r.lt g.ok
  refine ab (n:=46) (rs:=[.tmp 8]) rfl Tryz.e87 rfl rfl rfl (lbt rfl) ?_
  simp only [BS,LB,Nat.reduceLT,Nat.reduceEqDiff,O]
  refine al (kY S.ok k.bits) ?_;intro h1 u;replace S:=S.call u
  simp only [BS,LB,Nat.reduceLT,Nat.reduceEqDiff,P,Q]
  refine al (nL S.ok (k.gr u).bits) ?_;intro X z;replace S:=S.call z
  have a:=u.trans z
  have Y:=a.load U
  have Z:=a.load V
  simp only [BS,LB,Nat.reduceLT,Nat.reduceEqDiff,T]
  refine au (ax rfl) (q:=0) (ps:=[]) (by kernel_rfl) ?_
  simp only [BS,LB,cls,Nat.reduceLT,Nat.reduceEqDiff,Nat.reduceAdd,Nat.reducePow,Nat.reduceDiv,Nat.reduceMod,Nat.reduceLeDiff,F1A,Y,Z,G,H,I,J,y,mL (n:=8) (by decide),iK (n:=8) (by decide),b_shl8 t]
  refine ce (set1_ok S.ok (k.b.gr a) y (k.lt _) t (a.load L) N) ?_
  rintro v h3 ⟨A,rfl,R3⟩
  have vv:leaves X h3 bp=true:=gp (A.get bp (XM W a.n) l)
  simp only [BS,LB,cls,ae,Nat.reduceLT,Nat.reduceEqDiff,Nat.reduceAdd,Nat.reducePow,Nat.reduceDiv,Nat.reduceMod,Nat.reduceLeDiff]
  exact⟨(a.fr (M:=(· =bb))).trans A (fun c w=>.inl w),R3⟩
 have S:=Si x
 have zb:=m.b.lt x
 refine ab (n:=14) (rs:=[.tmp 8]) rfl Tryz.e28 rfl rfl rfl (lbt rfl) ?_
 simp only [BS,Nat.reduceLT]
 refine ag (da (by exact pS)) S ?_;clear S;intro h s S C
 simp only [BS,LB,Nat.reduceLT,Nat.reduceEqDiff]
 have k7:=S.fr.n
 refine step_ret (K S.gr (S.ld m0 rfl) (by omega)) ?_
 rintro v h ⟨f,rfl,R⟩
 simp only [BS,LB,ae,Nat.reduceLT,Nat.reduceEqDiff]
 have D:Mo (· =bb) h0 h:=(S.gr.fr (M:=(· =bb))).trans f (fun c w=>.inl w)
 refine⟨D,D.has (o:=.row _ 1) m.r l,R,fun j=>?_⟩
 unfold gy
 split
 . exact setB_lt (m.lt _) t
 . exact m.lt _
end
theorem lj{n:Nat}{f:Nat->Bool}:(Xq (n+1)).filter f=(Xq n).filter f++if f n=true then [n]else []:=by
 rw [List.range_succ,List.filter_append]
 congr 1
 by_cases h:f n=true
 . simp [h]
 . simp [h]
theorem wE{f:Nat->Bool}{i:Nat}(h:f i=true): ∀n,i<n->((Xq n).filter f)[((Xq i).filter f).length]? =some i:=by
 intro n
 induction n with
 |zero=>intro a;omega
 | succ n b=>
   intro a
   rw [lj]
   by_cases c:i<n
   . have:=b c
     rw [XT (List.getElem?_eq_some_iff.1 this).1];exact this
   . have:i=n:=by omega
     subst this
     rw [Xk (Xj _),if_pos h]
     simp
theorem xH{n:Nat}{f:Nat->Bool}:((Xq n).filter f).length<=n:=by
 have:=List.length_filter_le f (Xq n)
 rwa [XS]at this
end Go.Ab

end
section
namespace Go.Ab
open Go.Proofs
set_option maxRecDepth 10000
def Tryz.FY:=aj t1<|aj t2<|aj t3<|aj t4<|aj t5<|aj t6<|aj Z0<|aj Z2<|aj t9<|aj t10<|aj t20<|aj t23<|t243
def Tryz.FZ:=aj t1<|aj t2<|aj t3<|aj t4<|aj t5<|aj t6<|aj Z0<|aj Z2<|aj t9<|aj t10<|aj t20<|aj t38<|t243
theorem rep64_ok{a:Hp}(y:a.t.Sized a.n){v:Value}{x:Int}{N:Nat}(z:ay a 1 (encI .i64) v [x])(d:1<=N)(A:N<1000):Ret zB 189 [v,.int .i64 N] a fun r t=>Gr a t/\ ∃b,r=.slice (some ⟨b,0,none⟩) N N/\a.n<=b/\Row t b (zM N (.int .i64 x)) 1:=by
 have S:=Si y
 have B: ¬((N:Int)<0):=by omega
 have C: ¬((9223372036854775807:Int)<(N:Int)):=by omega
 have D:am .u64 (N:Int)=(N:Int):=xi (by omega) (by omega)
 have E:am .u64 1=1:=rfl
 have F:am .i64 (N:Int)=(N:Int):=by rw [wrap64]<;>omega
 obtain⟨L,M,O,P,rfl,G,H⟩: ∃b o s c,v=.slice (some ⟨b,o,s⟩) 1 c/\1<=c/\a.load b o 1=some [.int .i64 x]:=by
  rcases z with⟨_,h⟩|⟨b,o,s,c,rfl,I,J⟩
  . cases h
  . exact⟨b,o,s,c,rfl,I,J⟩
 refine ab (n:=48) (rs:=[.tmp 4]) rfl Tryz.e189 rfl rfl rfl (lbt rfl) ?_
 simp only [BS,LB,ck,aF,cq,Nat.reduceLT,Nat.reduceEqDiff,zO,FY,B,D,E]
 refine al (mul_ok S.ok A) ?_;intro h g;replace S:=S.call g;clear g
 simp only [BS,LB,ck,aF,cq,Nat.reduceLT,Nat.reduceEqDiff,Int.reduceLT,FY,C,F]
 refine ag (j8 (by exact Tryz.t23.1) (by exact Tryz.e2E) (by omega) (by omega)) S ?_;clear S;intro h m S f
 rw [Xe,lE]at S
 simp only [BS,LB,Nat.reduceLT,Nat.reduceEqDiff,Xe]
 refine dT (S.copyO (i:=0) (l:=zM 1 (.int .i64 x)) rfl Tryz.t23.1 Tryz.t2.2.2.1 (by rw [jh d];decide) (by rw [jh d];exact S.old H (fun h=>h)) (by simp;omega) rfl) ?_
 clear S;rintro h w ⟨rfl,S⟩
 simp only [LC]at S
 rw [show zM N (Value.int .i64 0)=zM 0 (.int .i64 x)++zM N (.int .i64 0) by simp,tV d]at S
 rw [jh d]
 simp only [BS,LB,Nat.reduceLT,Nat.reduceEqDiff,zO]
 refine az (fun(n:Nat) p h=>1<=n/\n<=N/\St NoM a h [(m,.row (zM n (.int .i64 x)++zM (N-n) (.int .i64 0)) 1)] []/\p 7=.slice (some ⟨m,0,none⟩) N N/\p 8=.int .i64 n) (fun n=>N-n) ?_ 1 _ _ ?_
 . clear S
   intro n K p h ⟨hn1,hn,S,r7,r8⟩
   by_cases hlt:n<N
   . simp only [BS,LB,Nat.reduceLT,Nat.reduceEqDiff,FY,r7,r8,an,hlt]
     refine au (ax rfl) (q:=0) (ps:=[]) (by kernel_rfl) ?_
     simp only [BS,LB,cls,Nat.reduceLT,Nat.reduceEqDiff,Nat.reduceAdd,Nat.reducePow,Nat.reduceDiv,Nat.reduceMod,Nat.reduceLeDiff,XH,X3,r7,r8,Ar Tryz.t23.1 Tryz.t2.2.2.1 hlt,yU Tryz.t23.1 Tryz.t2.2.2.1 (XZ hlt)]
     have u:0<dc n (N-n):=by
      rcases X2 n (N-n)with h|h
      . rw [jh h];omega
      . rw [tR h];omega
     have j:dc n (N-n)<=N-n/\dc n (N-n)<=n:=by
      rcases X2 n (N-n)with h|h
      . rw [jh h];omega
      . rw [tR h];omega
     refine jx (S.copyO (i:=0) (l:=zM (dc n (N-n)) (.int .i64 x)) rfl Tryz.t23.1 Tryz.t2.2.2.1 u ?_ (by simp;omega) (by simp;right;rfl)) ?_
     . rw [(S.row m0).load (by simp;omega),Xr,X9]
       congr 1
       rw [XI (by simp;omega),Yi]
       congr 1
       omega
     clear S;rintro h w ⟨rfl,S⟩
     simp only [LC]at S
     rw [tV j.1]at S
     generalize dc n (N-n)=k at S u j
     have w:am .i64 ((n:Int)+(k:Int))=((n+k:Nat):Int):=by rw [wrap64]<;>omega
     simp only [BS,LB,cls,Nat.reduceLT,Nat.reduceEqDiff,Nat.reduceAdd,Nat.reducePow,Nat.reduceDiv,Nat.reduceMod,Nat.reduceLeDiff,w]
     exact K (n+k) _ _ (by omega) ⟨by omega,by omega,by rw [show N-(n+k)=N-n-k by omega];exact S,by simp [aa,r7],by simp [aa]⟩
   . simp only [BS,LB,ae,Nat.reduceLT,Nat.reduceEqDiff,FY,r7,r8,an,hlt]
     have e:n=N:=by omega
     subst e
     have R:=S.row (b:=m) m0
     rw [Yo,Yj,XD]at R
     exact⟨S.gr,m,rfl,f,R⟩
 . exact⟨Xj _,d,by simpa using S,by simp [aa],by simp [aa]⟩
theorem repI_ok{a:Hp}(y:a.t.Sized a.n){v:Value}{x:Int}{N:Nat}(z:ay a 1 (encI .i64) v [x])(d:1<=N)(A:N<1000):Ret zB 190 [v,.int .i64 N] a fun r t=>Gr a t/\ ∃b,r=.slice (some ⟨b,0,none⟩) N N/\a.n<=b/\Row t b (zM N (.int .i64 x)) 1:=by
 have S:=Si y
 have B: ¬((N:Int)<0):=by omega
 have C: ¬((9223372036854775807:Int)<(N:Int)):=by omega
 have D:am .u64 (N:Int)=(N:Int):=xi (by omega) (by omega)
 have E:am .u64 1=1:=rfl
 have F:am .i64 (N:Int)=(N:Int):=by rw [wrap64]<;>omega
 obtain⟨L,M,O,P,rfl,G,H⟩: ∃b o s c,v=.slice (some ⟨b,o,s⟩) 1 c/\1<=c/\a.load b o 1=some [.int .i64 x]:=by
  rcases z with⟨_,h⟩|⟨b,o,s,c,rfl,I,J⟩
  . cases h
  . exact⟨b,o,s,c,rfl,I,J⟩
 refine ab (n:=48) (rs:=[.tmp 4]) rfl Tryz.e190 rfl rfl rfl (lbt rfl) ?_
 simp only [BS,LB,ck,aF,cq,Nat.reduceLT,Nat.reduceEqDiff,zO,FZ,B,D,E]
 refine al (mul_ok S.ok A) ?_;intro h g;replace S:=S.call g;clear g
 simp only [BS,LB,ck,aF,cq,Nat.reduceLT,Nat.reduceEqDiff,Int.reduceLT,FZ,C,F]
 refine ag (j8 (by exact Tryz.t38.1) (by exact Yr) (by omega) (by omega)) S ?_;clear S;intro h m S f
 rw [Xe,lE]at S
 simp only [BS,LB,Nat.reduceLT,Nat.reduceEqDiff,Xe]
 refine dT (S.copyO (i:=0) (l:=zM 1 (.int .i64 x)) rfl Tryz.t38.1 Tryz.t3.2.2.1 (by rw [jh d];decide) (by rw [jh d];exact S.old H (fun h=>h)) (by simp;omega) rfl) ?_
 clear S;rintro h w ⟨rfl,S⟩
 simp only [LC]at S
 rw [show zM N (Value.int .i64 0)=zM 0 (.int .i64 x)++zM N (.int .i64 0) by simp,tV d]at S
 rw [jh d]
 simp only [BS,LB,Nat.reduceLT,Nat.reduceEqDiff,zO]
 refine az (fun(n:Nat) p h=>1<=n/\n<=N/\St NoM a h [(m,.row (zM n (.int .i64 x)++zM (N-n) (.int .i64 0)) 1)] []/\p 7=.slice (some ⟨m,0,none⟩) N N/\p 8=.int .i64 n) (fun n=>N-n) ?_ 1 _ _ ?_
 . clear S
   intro n K p h ⟨hn1,hn,S,r7,r8⟩
   by_cases hlt:n<N
   . simp only [BS,LB,Nat.reduceLT,Nat.reduceEqDiff,FZ,r7,r8,an,hlt]
     refine au (ax rfl) (q:=0) (ps:=[]) (by kernel_rfl) ?_
     simp only [BS,LB,cls,Nat.reduceLT,Nat.reduceEqDiff,Nat.reduceAdd,Nat.reducePow,Nat.reduceDiv,Nat.reduceMod,Nat.reduceLeDiff,XH,X3,r7,r8,Ar Tryz.t38.1 Tryz.t3.2.2.1 hlt,yU Tryz.t38.1 Tryz.t3.2.2.1 (XZ hlt)]
     have u:0<dc n (N-n):=by
      rcases X2 n (N-n)with h|h
      . rw [jh h];omega
      . rw [tR h];omega
     have j:dc n (N-n)<=N-n/\dc n (N-n)<=n:=by
      rcases X2 n (N-n)with h|h
      . rw [jh h];omega
      . rw [tR h];omega
     refine jx (S.copyO (i:=0) (l:=zM (dc n (N-n)) (.int .i64 x)) rfl Tryz.t38.1 Tryz.t3.2.2.1 u ?_ (by simp;omega) (by simp;right;rfl)) ?_
     . rw [(S.row m0).load (by simp;omega),Xr,X9]
       congr 1
       rw [XI (by simp;omega),Yi]
       congr 1
       omega
     clear S;rintro h w ⟨rfl,S⟩
     simp only [LC]at S
     rw [tV j.1]at S
     generalize dc n (N-n)=k at S u j
     have w:am .i64 ((n:Int)+(k:Int))=((n+k:Nat):Int):=by rw [wrap64]<;>omega
     simp only [BS,LB,cls,Nat.reduceLT,Nat.reduceEqDiff,Nat.reduceAdd,Nat.reducePow,Nat.reduceDiv,Nat.reduceMod,Nat.reduceLeDiff,w]
     exact K (n+k) _ _ (by omega) ⟨by omega,by omega,by rw [show N-(n+k)=N-n-k by omega];exact S,by simp [aa,r7],by simp [aa]⟩
   . simp only [BS,LB,ae,Nat.reduceLT,Nat.reduceEqDiff,FZ,r7,r8,an,hlt]
     have e:n=N:=by omega
     subst e
     have R:=S.row (b:=m) m0
     rw [Yo,Yj,XD]at R
     exact⟨S.gr,m,rfl,f,R⟩
 . exact⟨Xj _,d,by simpa using S,by simp [aa],by simp [aa]⟩
def Tryz.FQ:=aj t1<|aj t2<|aj t3<|aj t4<|aj t5<|aj Z1<|aj t38<|aj t67<|aj Z4<|aj t162<|aj Z3<|aj t209<|t331
def pg(A:List Arc)(f:Arc->Nat)(a:List Nat):List (List Value):=a.map fun(id:Nat)=>[.int .i64 id,.agg ⟨cD ⟨0,f (A.getD id default),(A.getD id default).w⟩⟩]
theorem arcs_ok'{a:Hp}(l:a.t.Sized a.n){p j k:Value}(m:Fl p)(o:Fl j)(q:Fl k):Ret zB 193 [p,j,k] a fun v i=>Gr a i/\ ∃b c d,v=.func (.func 223) #[] #[ptrTo b,ptrTo c,ptrTo d]/\a.n<=b/\a.n<=c/\a.n<=d/\i.load b 0 1=some [j]/\i.load c 0 1=some [p]/\i.load d 0 1=some [k]:=by
 have S:=Si l
 refine ab (n:=8) (rs:=[.tmp 6]) rfl Tryz.e193 rfl rfl rfl (lbt rfl) ?_
 simp only [BS,Nat.reduceLT]
 refine ag (da (by assumption)) S ?_;clear S;intro h c S e
 simp only [BS,Nat.reduceLT,Nat.reduceEqDiff,if_false]
 refine ag (da (by assumption)) S ?_;clear S;intro h b S f
 simp only [BS,Nat.reduceLT,Nat.reduceEqDiff,if_false]
 refine ag (da (by assumption)) S ?_;clear S;intro h d S g
 simp only [BS,LB,ae,Nat.reduceLT,Nat.reduceEqDiff]
 exact⟨S.gr,b,c,d,rfl,f,e,g,S.ld m1 rfl,S.ld m2 rfl,S.ld m0 rfl⟩
theorem arcs_it{hq k:Hp}(I:hq.t.Sized hq.n)(m:k.t.Sized k.n)(T:fq hq k)(U:hq.n<=k.n){p u:Value}{l:Gra}{M y z A:Nat}(V:bW hq M p l){d:List Nat}(N:ay k 1 eO u d)(B: ∀id∈d,id<l.arcs.length)(O:d.length<1000){g:FuncId}{f:Arc->Nat}(W:KeyF zB g f)
 (X:k.load y 0 1=some [u]) (e2:k.load z 0 1=some [p]) (e3:k.load A 0 1=some [.func (.func g) #[] #[]]):
 rG zB 223 [] [ptrTo y,ptrTo z,ptrTo A] k (fun c=>c=y\/c=z\/c=A\/aq u c\/c<hq.n) (pg l.arcs f d):=by
 intro lb J Z hz Y h F s G
 refine enter (n:=32) (rs:=[]) rfl Tryz.e223 rfl rfl rfl (lbt rfl) ?_
 have P:=s.load m X (.inl rfl)
 simp only [BS,LB,Nat.reduceLT,FQ,P,N.lenq]
 refine az (fun(i:Nat) r h=>i<=d.length/\ ∃F,ItS k (fun c=>c=y\/c=z\/c=A\/aq u c\/c<hq.n) h F/\J i h F/\r 0=.func (.yield lb) #[] #[]/\r 1=ptrTo y/\r 2=ptrTo z/\r 3=ptrTo A/\r 9=u/\r 10=.int .i64 d.length/\r 11=.int .i64 i) (fun i=>d.length-i) ?_ 0 _ _ ?_
 . clear P
   intro i ih r h ⟨hi,F,s,G,r0,r1,r2,r3,r9,r10,r11⟩
   by_cases hlt:i<d.length
   . obtain⟨c,o,C,K⟩:=(s.sl m N (fun b h=>.inr (.inr (.inr (.inl h))))).ix (kd:=.i64) iq hlt
     have l2:=s.load m e2 (.inr (.inl rfl))
     have l3:=s.load m e3 (.inr (.inr (.inl rfl)))
     have D:=B _ (XY hlt)
     have nt:bW h M p l:=V.keep I (s.keep T U (fun c hc=>.inr (.inr (.inr (.inr hc)))))
     have w:am .i64 ((i:Int)+1)=((i+1:Nat):Int):=by rw [wrap64]<;>omega
     have S:=Si s.ok
     simp only [BS,LB,Nat.reduceLT,Nat.reduceEqDiff,FQ,r2,r9,r10,r11,an,hlt,C,K,eO,l2]
     refine step_ret (qM S.ok nt D) ?_
     rintro v h2 ⟨t,rfl⟩
     replace S:=S.call t;clear t
     simp only [BS,LB,Nat.reduceLT,Nat.reduceEqDiff,FQ]
     refine ag av S ?_;clear S;intro h L S Q
     simp only [BS,LB,Nat.reduceLT,Nat.reduceEqDiff,cD]
     refine aw (S.store (i:=0) rfl ?_ ?_ rfl rfl ?_ ono) ?_
     . exact(by exact Tryz.t90.2.1)
     . exact(by intro x e;cases e)
     . exact lbt rfl
     clear S;rintro h ⟨S,mo⟩;clear mo;simp only [LC,ah,lay,Xu,Xv,Nat.reduceAdd]at S
     simp only [BS,LB,Nat.reduceLT,Nat.reduceEqDiff]
     refine au (ax rfl) (q:=0) (ps:=[(4,6)]) (by kernel_rfl) ?_
     simp only [BS,LB,cls,Nat.reduceLT,Nat.reduceEqDiff,Nat.reduceAdd,Nat.reducePow,Nat.reduceDiv,Nat.reduceMod,Nat.reduceLeDiff,FQ,r0,r3,S.old l3 (fun h=>h),S.lds (b:=L) (o:=0) (n:=3) m0 (lbt rfl)]
     have E:=(S.row (b:=L) m0).lt S.ok
     refine eZ (W _ l.arcs[d[i]] S.ok) ?_
     intro R t
     have H:=aP t E
     replace S:=S.call t;clear t
     simp only [BS,LB,cls,Nat.reduceLT,Nat.reduceEqDiff,Nat.reduceAdd,Nat.reducePow,Nat.reduceDiv,Nat.reduceMod,Nat.reduceLeDiff,FQ,S.ld (b:=L) (o:=2) m0 rfl]
     have gd:l.arcs.getD d[i] default=l.arcs[d[i]]:=by simp [XQ,D]
     have hx:(pg l.arcs f d)[i]? =some [.int .i64 (d[i]:Nat),.agg ⟨[.int .i64 0,.int .i64 (f l.arcs[d[i]]:Nat),.int .i64 (l.arcs[d[i]].w:Nat)]⟩]:=by
      unfold pg
      rw [XR,XX hlt]
      simp only [XH,gd]
      rfl
     refine dn_yield hz Y (s.gr S.gr) (Y.gr _ _ _ _ G S.gr) (j:=i) hx ?_ ?_
     . intro R F' a s' _ _
       simp only [BS,LB,cls,Nat.reduceLT,Nat.reduceEqDiff,Nat.reduceAdd,Nat.reducePow,Nat.reduceDiv,Nat.reduceMod,Nat.reduceLeDiff,r11,w]
       refine⟨by simp only [aX,bo,aS,bD,aV,ne_eq,not_false_eq_true,bC,bR,aZ,aW,bZ,cu,aT,Nat.reduceLT,Nat.reduceEqDiff,reduceIte,XP,r0,r1,r2,r3,ac,aQ H,aD H],?_⟩
       exact ih (i+1) _ _ (by omega) ⟨by omega,F',s',a,by simp [aa,r0],by simp [aa,r1,ac],by simp [aa,r2,ac],by simp [aa,r3,ac],by simp [aa,r9],by simp [aa,r10],by simp [aa]⟩
     . intro R a _
       simp only [BS,LB,cls,Nat.reduceLT,Nat.reduceEqDiff,Nat.reduceAdd,Nat.reducePow,Nat.reduceDiv,Nat.reduceMod,Nat.reduceLeDiff]
       refine⟨by simp only [aX,bo,aS,bD,aV,ne_eq,not_false_eq_true,bC,bR,aZ,aW,bZ,cu,aT,Nat.reduceLT,Nat.reduceEqDiff,reduceIte,XP,r0,r1,r2,r3,ac,aQ H,aD H],?_⟩
       exact iE rfl ⟨rfl,.inr (.inl ⟨_,rfl,a⟩)⟩
   . simp only [BS,LB,Nat.reduceLT,r10,r11,an,hlt]
     have:i=d.length:=by omega
     subst this
     exact di (cL ⟨rfl,_,rfl,rfl,.inl ⟨_,F,rfl,by simpa [pg]using G⟩⟩)
 . exact⟨by omega,F,s,G,by simp [aa,cw],by simp [aa,cw,ac],by simp [aa,cw,ac],by simp [aa,cw,ac],by simp [aa],by simp [aa],by simp [aa]⟩
def Tryz.Fv:=aj t1<|aj t2<|aj t3<|aj t4<|aj t5<|aj t23<|aj t29<|aj t38<|aj t213<|aj Z20<|aj t273<|aj t274<|aj t279<|aj r279<|aj Z12<|Z19
theorem ints_set(l:List Int)(i:Nat)(x:Int):(ints l).set i (.int .i64 x)=ints (l.set i x):=by
 have a: ∀l:List Int,ints l=l.map fun x=>Value.int .i64 x:=fun l=>by
  unfold ints;rw [Xy,Yh,Xy];rfl
 rw [a,a,Yk]
theorem reach_ok{j:Hp}(ok:j.t.Sized j.n){E d J c N v arc far:Nat}{p W vO:Value}{F:List Nat}{K:Nat->Option Int}{O:List Nat}{X:List (Value×Value×Nat)}{f:Int->Option Value}{l:List Int}
 (R:Row j E [p,W,.slice (some ⟨d,0,none⟩) N N,vO,.map (some J)] 1) (H:dS j F p N K) (hN:N<=1000) (a:j.get J=some (.map X c)) (MI:dO X c f) (CF:ClF O f) (u:Row j d (ints l) 1) (G:l.length=N) (L:v<N)
 (U:d∉F) (d2:E∉F) (d3:E≠d):
 Ret zB 194 [ptrTo E,.int .i64 v,.int .i64 arc,.int .i64 far] j fun _ Y=>Mo (fun c=>c∈F\/c=d) j Y/\ ∃F' q,dS Y F' p N (iZ O K v far)/\(∀b∈F',b∈F\/j.n<=b)/\Row Y d (ints q) 1/\q.length=N/\((iZ O K v far=K/\q=l)\/(v∉O/\iZ O K v far=eQ K v (some (far:Int))/\q=l.set v arc)):=by
 have S:=Si ok
 have ad:=u.lt ok
 have M:=R.load1 (o:=0) rfl
 have I:=R.load1 (o:=4) rfl
 have l2:=R.load1 (o:=2) rfl
 have pp: ∃b,p=ptrTo b:=by obtain⟨b,_,_,e,_⟩:=H.ex;exact⟨b,e⟩
 obtain⟨bp,rfl⟩:=pp
 refine ab (n:=59) (rs:=[]) rfl Tryz.e194 rfl rfl rfl (lbt rfl) ?_
 simp only [BS,LB,Nat.reduceLT,Nat.reduceEqDiff,Fv,M]
 refine al (Co S.ok H) ?_
 intro h g;replace S:=S.call g;clear g
 replace a:h.get J=some (.map X c):=S.gr.at a
 have V:=H.gr S.gr
 have A:=tS (x:=(v:Int)) Tryz.t213.1 Tryz.t3.1 (z:=.int .i64 0) (by kernel_rfl) a MI
 rw [CF v]at A
 replace M:=S.old M (fun h=>h)
 replace I:=S.old I (fun h=>h)
 replace l2:=S.old l2 (fun h=>h)
 replace u:Row h d (ints l) 1:=u.gr S.gr
 have R1:=R.gr S.gr
 have w:=S.gr
 by_cases s:v∈O
 . rw [if_pos s,XA]at A
   simp only [BS,LB,Nat.reduceLT,Nat.reduceEqDiff,Int.reduceLT,Fv,I,A]
   exact⟨w.fr,F,l,by unfold iZ;rw [if_pos s];exact V,fun b m=>.inl m,u,G,.inl ⟨by unfold iZ;rw [if_pos s],rfl⟩⟩
 . rw [if_neg s,Xz]at A
   have af:=u.lt w.ok
   cases P:K v with
   | none=>
     have y:iZ O K v far=eQ K v (some (far:Int)):=by unfold iZ;rw [if_neg s,P]
     simp only [BS,LB,Nat.reduceLT,Nat.reduceEqDiff,Int.reduceLT,Fv,M,I,A,Xz,Xd]
     refine step_ret (uD w.ok V L hN P) ?_
     rintro r B ⟨t,F',Z,Q⟩
     have C:Row B d (ints l) 1:=t.has (o:=.row _ 1) u U
     have r2:Row B E [ptrTo bp,W,.slice (some ⟨d,0,none⟩) N N,vO,.map (some J)] 1:=t.has (o:=.row _ 1) R1 d2
     have D:=r2.load1 (o:=2) rfl
     have S:=St.init1 t.ok (o:=.row _ 1) C
     simp only [BS,LB,Nat.reduceLT,Nat.reduceEqDiff,Nat.reduceAdd,Fv,D,L]
     refine aw (ar S (i:=0) rfl Tryz.t3.2.2.1 cg (by rw [bQ,G];exact L) ono) ?_
     clear S;rintro h3 ⟨S,T⟩
     simp only [LC]at S
     rw [ints_set]at S
     simp only [BS]
     refine⟨(w.fr.trans (t.mono (fun c a=>.inl a)) (fun c a=>.inl a):Mo (fun c=>c∈F\/c=d) j B).trans T (fun c a=>.inl (.inr a)),F',l.set v arc,by rw [y];exact Z.mo T (fun b m e=>by subst e;rcases Q b m with h|h;exact U h;omega),fun b m=>(Q b m).imp (fun h=>h) (fun h=>Xc w.n h),S.row m0,by rw [Xf];exact G,.inr ⟨s,y,rfl⟩⟩
   | some k=>
     by_cases hle:k<=(far:Int)
     . have y:iZ O K v far=K:=by unfold iZ;rw [if_neg s,P];simp only [];rw [if_pos hle]
       simp only [BS,LB,Nat.reduceLT,Nat.reduceEqDiff,Int.reduceLT,Fv,I,A,hle,XA]
       exact⟨w.fr,F,l,by rw [y];exact V,fun b m=>.inl m,u,G,.inl ⟨y,rfl⟩⟩
     . have y:iZ O K v far=eQ K v (some (far:Int)):=by unfold iZ;rw [if_neg s,P];simp only [];rw [if_neg hle]
       simp only [BS,LB,Nat.reduceLT,Nat.reduceEqDiff,Int.reduceLT,Fv,M,I,A,hle,XA]
       refine step_ret (AB w.ok V hN P (by omega)) ?_
       rintro r B ⟨t,Z⟩
       have C:Row B d (ints l) 1:=t.has (o:=.row _ 1) u U
       have r2:Row B E [ptrTo bp,W,.slice (some ⟨d,0,none⟩) N N,vO,.map (some J)] 1:=t.has (o:=.row _ 1) R1 d2
       have D:=r2.load1 (o:=2) rfl
       have S:=St.init1 t.ok (o:=.row _ 1) C
       simp only [BS,LB,Nat.reduceLT,Nat.reduceEqDiff,Nat.reduceAdd,Fv,D,L]
       refine aw (ar S (i:=0) rfl Tryz.t3.2.2.1 cg (by rw [bQ,G];exact L) ono) ?_
       clear S;rintro h3 ⟨S,T⟩
       simp only [LC]at S
       rw [ints_set]at S
       simp only [BS]
       refine⟨(w.fr.trans (t.mono (fun c a=>.inl a)) (fun c a=>.inl a):Mo (fun c=>c∈F\/c=d) j B).trans T (fun c a=>.inl (.inr a)),F,l.set v arc,by rw [y];exact Z.mo T (fun b m e=>by subst e;exact U m),fun b m=>.inl m,S.row m0,by rw [Xf];exact G,.inr ⟨s,y,rfl⟩⟩
end Go.Ab
end
